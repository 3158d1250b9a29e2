import PyProof.Rows.All
import Wide.All
import OpenK.AllK
import Wide.FinOn
import KE.KStateDown
import Lean
import HandS.ForMost
import HandS.ForExc
import HandS.Defaults
import HandS.ExcField
import HandS.ExcInit
import HandS.Head0
import HandS.Head1
import HandS.Head2
import HandS.Head3
import HandS.HeadEnd
import HandS.HeadHook1
import HandS.HeadHook2
import HandS.HeadHook3
import HandS.HeadHook4
import HandS.IsInst
import KE.KExcSuper
import PySem.Challenge.RW_touchcurves_k42_whole_polynomials_of_kno
import PyProof.ReprRoads
import HandS.Lambda
import HandS.Comp
import HandS.Walk
import HandS.Iter
import HandS.Style
import HandS.TupAny
import HandS.Evl
import KE.GoesMore
import KE.GoesEnum
import HandS.OwnEq
import HandS.More
import HandS.Gcd
import HandS.EndTab
import HandS.HeadWalk
import HandS.Zip
import HandS.SetFor
import HandS.ExcOwn
import KE.KDflt
import HandS.TupMul
import PyProof.Rows.IntBool
import PyProof.NeKinds
set_option Elab.async false
set_option linter.all false
set_option maxRecDepth 100000
set_option maxHeartbeats 2000000
/-! The head's hook for the touchcurves laws: facts of classes of errors with super(), tables of code objects, the statics. -/
namespace TC
open PySem PySem.Spec PyProof.Rows L2 He

/-! ### what is asked of an own class of errors, by a look at the written part -/
/-- the class object at C is as the maker of own errors wants it -/
def xcB (K : PySem.W.Frag) (C : Addr) : Bool := match K.lookup C with
  | some ⟨.type "type", _, .cls cd, sl⟩ => (match cd.mro, sl.toList with
    | .ref C' :: bm, [_, _, _, _, some (.builtin n), _] => decide (C' = C) && (decide (n = "ValueError.__new__") && (!cd.hasDel && (PySem.HandSPX.refsVE bm && cd.hasDict)))
    | _, _ => false)
  | _ => false
theorem xcB_ok {K : PySem.W.Frag} {C : Addr} (h : xcB K C = true) : ∃ nm q N bs bm sn sub ab col dd k0 k1 k2 k3 k5,
    K.lookup C = some (excClassObj nm q C N bs bm true sn sub ab col dd k0 k1 k2 k3 k5 "ValueError.__new__") ∧ PySem.HandSPX.refsVE bm = true := by
  unfold xcB at h
  split at h
  · rename_i dd cd sl ho
    split at h
    · rename_i C' bm k0 k1 k2 k3 n k5 hm hs
      obtain ⟨h1, h⟩ := ba h
      obtain ⟨h2, h⟩ := ba h
      obtain ⟨h3, h⟩ := ba h
      obtain ⟨h4, h5⟩ := ba h
      have e1 := of_decide_eq_true h1
      have e2 := of_decide_eq_true h2
      obtain ⟨nm, bs, mro, ns, qn, hd, sn, sub, ab, col, del⟩ := cd
      dsimp only at hm h3 h5
      subst e1 e2 hm h5
      have e3 : del = false := by simpa using h3
      subst e3
      have esl : sl = #[k0, k1, k2, k3, some (.builtin "ValueError.__new__"), k5] := by
        obtain ⟨l⟩ := sl
        exact congrArg Array.mk hs
      subst esl
      exact ⟨nm, qn, ns, bs, bm, sn, sub, ab, col, dd, k0, k1, k2, k3, k5, ho, h4⟩
    · cases h
  · cases h

/-! ### facts of __init__ of an own class of errors -/
/-- its cell -/
def xCell (K : PySem.W.Frag) (f : Addr) : Addr := match K.lookup f with
  | some ⟨_, _, .func fd, _⟩ => (match fd.closure with
    | [(_, c)] => c
    | _ => 0)
  | _ => 0
abbrev FnE : Type := Option (Str × Str × Arguments × FuncBody × Scope × Addr × Addr)
def fnE (K : PySem.W.Frag) (f : Addr) : FnE := match K.lookup f with
  | some ⟨_, _, .func fd, _⟩ => some (fd.name, fd.qualname, fd.params, fd.body, fd.scope, fd.globals, fd.builtins)
  | _ => none
/-- __init__ at f has the one cell __class__, that holds C; no defaults; its code tells the text's file -/
def xfnB (K : PySem.W.Frag) (C f : Addr) (q : Str) : Bool := match K.lookup f with
  | some ⟨.type "function", _, .func fd, _⟩ =>
    decide (fd.closure = [(("__class__" : Str), xCell K f)]) && (decide (fd.defaults = .none) && (PySem.W.codeIn K fd.code q && ((match K.lookup (xCell K f) with
        | some ⟨_, _, .cell (some (.ref D)), _⟩ => decide (D = C)
        | _ => false) && (match fd.code with
        | .ref c => (match K.lookup c with
          | some ⟨_, _, .fields vs, _⟩ => (match (vs[2]? : Option Value) with
            | some (.str z _) => decide (z = ("/claim/cut.py" : Str))
            | _ => false)
          | _ => false)
        | _ => false))))
  | _ => false
/-- what is known of it -/
structure XFn (K : PySem.W.Frag) (C f cc : Addr) (qual : Str) (params : Arguments) (body : List Stmt) (scope : Scope) : Prop where
  ex : ∃ (od an : Option Addr) (kV doc pm ct : Value) (osl : Array (Option Value)) (cda : Addr) (ccl : Value) (cdd : Option Addr) (vs : Array Value) (ccs : Array (Option Value)) (tf : Tok),
    K.lookup f = some ⟨.type "function", od, .func (PySem.W.fnX "__init__" qual params body scope [("__class__", cc)] .none kV doc pm an (.ref cda) ct), osl⟩ ∧
    K.lookup cda = some ⟨ccl, cdd, .fields vs, ccs⟩ ∧ vs[2]? = some (.str "/claim/cut.py" tf) ∧ PySem.W.codeIn K (.ref cda) qual = true
  cell : ∃ (cl : Value) (cld : Option Addr) (csl : Array (Option Value)), K.lookup cc = some ⟨cl, cld, .cell (some (.ref C)), csl⟩
theorem xfn_ok {K : PySem.W.Frag} {C f : Addr} {q : Str} {params : Arguments} {body : List Stmt} {scope : Scope} (e : fnE K f = some (("__init__" : Str), q, params, FuncBody.stmts body, scope, mainGlobals, builtinsNs)) (h : xfnB K C f q = true) : XFn K C f (xCell K f) q params body scope := by
  unfold xfnB at h
  split at h
  · rename_i od fd sl ho
    obtain ⟨h1, h⟩ := ba h
    obtain ⟨h2, h⟩ := ba h
    obtain ⟨h3, h⟩ := ba h
    obtain ⟨h4, h5⟩ := ba h
    have e1 := of_decide_eq_true h1
    have e2 := of_decide_eq_true h2
    unfold fnE at e
    rw [ho] at e
    obtain ⟨n1, n2, n3, n4, n5, n6, n7, n8, n9, n10, n11, n12, n13, n14, n15⟩ := fd
    have ee : (some (n1, n2, n3, n4, n5, n6, n15) : FnE) = some (("__init__" : Str), q, params, FuncBody.stmts body, scope, mainGlobals, builtinsNs) := e
    simp only [Option.some.injEq, Prod.mk.injEq] at ee
    obtain ⟨g1, g2, g3, g4, g5, g6, g7⟩ := ee
    dsimp only at e1 e2 h3 h5
    generalize hcc : xCell K f = cc at e1 h4 ⊢
    subst g1 g2 g3 g4 g5 g6 g7 e1 e2
    refine ⟨?_, ?_⟩
    · cases n13 with
      | ref c =>
        have h6 : (match K.lookup c with
          | some ⟨_, _, .fields vs, _⟩ => (match (vs[2]? : Option Value) with
            | some (.str z _) => decide (z = ("/claim/cut.py" : Str))
            | _ => false)
          | _ => false) = true := h5
        cases hc : K.lookup c with
        | none => rw [hc] at h6; cases h6
        | some oo =>
          obtain ⟨ccl, cdd, dt, ccs⟩ := oo
          rw [hc] at h6
          cases dt with
          | fields vs =>
            have h7 : (match (vs[2]? : Option Value) with
              | some (.str z _) => decide (z = ("/claim/cut.py" : Str))
              | _ => false) = true := h6
            cases hz : vs[2]? with
            | none => rw [hz] at h7; cases h7
            | some zv =>
              rw [hz] at h7
              cases zv with
              | str z tf =>
                have ez : z = ("/claim/cut.py" : Str) := of_decide_eq_true h7
                rw [ez] at hz
                exact ⟨od, _, _, _, _, _, sl, c, ccl, cdd, vs, ccs, tf, ho, hc, hz, h3⟩
              | _ => cases h7
          | _ => cases h6
      | _ => cases h5
    · cases hc : K.lookup cc with
      | none => rw [hc] at h4; cases h4
      | some oo =>
        obtain ⟨cl, cld, dt, csl⟩ := oo
        rw [hc] at h4
        cases dt with
        | cell v =>
          cases v with
          | none => cases h4
          | some u =>
            cases u with
            | ref D =>
              have ed : D = C := of_decide_eq_true h4
              exact ⟨cl, cld, csl, by rw [ed]⟩
            | _ => cases h4
        | _ => cases h4
  · cases h

/-! ### the Hook: facts, defs, one more Bool, tables, the errors' own __init__; the statics are looked at, too -/
def kAt (n : Nat) (g : Addr → Option Obj) : PySem.W.Frag := frT g (cStatics :: asD g n)
/-- an error's class and its __init__ in the text -/
abbrev ErD : Type := Str × Stmt
def ErD.qual (p : ErD) : Str := p.1 ++ (".__init__" : Str)
def erAt (K : PySem.W.Frag) (p : ErD) : Addr := ma K (ga K p.1) "__init__"
def erVal (p : ErD) : FnE := some ("__init__", p.qual, defArgs p.2, .stmts (defBody p.2), defScope p.2, mainGlobals, builtinsNs)
structure SaysZ (fa : List Fa) (fn : List DefD) (er : List ErD) (tf : List Defn) (ex : PySem.W.Frag → Bool) (h : Heap) (K : PySem.W.Frag) : Prop where
  d : SaysD fa fn K
  erE : er.map (fun p => fnE K (erAt K p)) = er.map erVal
  erB : ∀ p ∈ er, xfnB K (ga K p.1) (erAt K p) p.qual = true
  more : ex K = true
  hd : ∀ p ∈ tf, PySem.W.codeHdIn K (cT K p).1 (cT K p).2 = true
  out : ∀ p ∈ tf, K.lookup (cT K p).2 = none
  empty : ∀ p ∈ tf, h.get? (cT K p).2 = some { cls := .none, data := .fields #[] }
abbrev AlZ : Type := AlD × List FnE × Bool
def obsZ (n : Nat) (fa : List Fa) (fn : List DefD) (er : List ErD) (tf : List Defn) (ex : PySem.W.Frag → Bool) (g : Addr → Option Obj) : AlZ :=
  (obsD fa fn (kAt n g), er.map (fun p => fnE (kAt n g) (erAt (kAt n g) p)), (er.all fun p => xfnB (kAt n g) (ga (kAt n g) p.1) (erAt (kAt n g) p) p.qual) && (ex (kAt n g) && tabsB g tf (kAt n g)))
def valZ (fn : List DefD) (er : List ErD) : AlZ := (valD fn, er.map erVal, true)
theorem saysZ_of {n : Nat} {fa : List Fa} {fn : List DefD} {er : List ErD} {tf : List Defn} {ex : PySem.W.Frag → Bool} {h : Heap} (e : obsZ n fa fn er tf ex h.get? = valZ fn er) : SaysZ fa fn er tf ex h (kAt n h.get?) := by
  have e1 : obsD fa fn (kAt n h.get?) = valD fn := congrArg Prod.fst e
  have e2 : er.map (fun p => fnE (kAt n h.get?) (erAt (kAt n h.get?) p)) = er.map erVal := congrArg (fun z : AlZ => z.2.1) e
  have e3 : ((er.all fun p => xfnB (kAt n h.get?) (ga (kAt n h.get?) p.1) (erAt (kAt n h.get?) p) p.qual) && (ex (kAt n h.get?) && tabsB h.get? tf (kAt n h.get?))) = true := congrArg (fun z : AlZ => z.2.2) e
  obtain ⟨m0, e4⟩ := ba e3
  obtain ⟨m1, m2⟩ := ba e4
  have look : ∀ p ∈ tf, PySem.W.codeHdIn (kAt n h.get?) (cT (kAt n h.get?) p).1 (cT (kAt n h.get?) p).2 = true ∧ ∃ o, h.get? (cT (kAt n h.get?) p).2 = some o ∧ emptyTab o = true := by
    intro p hp
    obtain ⟨m3, m4⟩ := ba (List.all_eq_true.mp m2 p hp)
    refine ⟨m3, ?_⟩
    cases q : h.get? (cT (kAt n h.get?) p).2 with
    | none => rw [q] at m4; cases m4
    | some o => rw [q] at m4; exact ⟨o, rfl, m4⟩
  refine ⟨e1, e2, fun p hp => List.all_eq_true.mp m0 p hp, m1, fun p hp => (look p hp).1, fun p hp => ?_, fun p hp => ?_⟩
  · obtain ⟨_, o, q, z⟩ := look p hp
    exact frT_none q z
  · obtain ⟨_, o, q, z⟩ := look p hp
    rw [q, emptyTab_eq z]
def hookZ (n : Nat) (fa : List Fa) (fn : List DefD) (er : List ErD) (tf : List Defn) (ex : PySem.W.Frag → Bool) : PySem.W.Hook where
  α := AlZ
  obs := fun s => obsZ n fa fn er tf ex s.heap.get?
  val := fun _ => valZ fn er
  says := fun _ h => ∃ K : PySem.W.Frag, K.In h ∧ SaysZ fa fn er tf ex h K
  of := fun _ _ e => ⟨_, frT_in, saysZ_of e⟩
  keeps := fun _ _ _ ⟨K, hK, c⟩ k => ⟨K, PySem.W.Frag.In.keeps hK k, ⟨c.d, c.erE, c.erB, c.more, c.hd, c.out, fun p hp => k _ _ (c.empty p hp)⟩⟩
theorem obsZ_eq {n : Nat} {fa : List Fa} {fn : List DefD} {er : List ErD} {tf : List Defn} {ex : PySem.W.Frag → Bool} {g : Addr → Option Obj} {s : Shared} (h : ∀ a, g a = s.heap.get? a) : obsZ n fa fn er tf ex g = (hookZ n fa fn er tf ex).obs s := by
  have e : g = s.heap.get? := funext h
  rw [e]
  rfl
theorem SaysZ.init {fa : List Fa} {fn : List DefD} {er : List ErD} {tf : List Defn} {ex : PySem.W.Frag → Bool} {h : Heap} {K : PySem.W.Frag} (c : SaysZ fa fn er tf ex h K) (i : Nat) {p : ErD} (hp : er[i]? = some p) :
    XFn K (ga K p.1) (erAt K p) (xCell K (erAt K p)) p.qual (defArgs p.2) (defBody p.2) (defScope p.2) := by
  have e2 : (er.map fun p => fnE K (erAt K p))[i]? = (er.map erVal)[i]? := by rw [c.erE]
  rw [List.getElem?_map, List.getElem?_map, hp] at e2
  exact xfn_ok (Option.some.inj e2) (c.erB p (List.mem_of_getElem? hp))

/-! ### facts of an error's class -/
structure XCls (K : PySem.W.Frag) (C f : Addr) (flds : List Str) : Prop where
  cls : ∃ nm q N bs bm sn sub ab col dd k0 k1 k2 k3 k5, K.lookup C = some (excClassObj nm q C N bs bm true sn sub ab col dd k0 k1 k2 k3 k5 "ValueError.__new__") ∧ PySem.HandSPX.refsVE bm = true
  sa : PySem.W.findIn K (.ref C) "__setattr__" = some (some (.builtin "object.__setattr__"))
  xf : XfC K C
  ini : PySem.W.findIn K (.ref C) "__init__" = some (some (.ref f))
  tyF : PySem.W.typeIn K (.ref f) = some (.type "function")
  kC : PySem.W.keepIn K (.ref C) = true
  tyC : PySem.W.typeIn K (.ref C) = some (.type "type")
  mro : PySem.W.mroIn K C (.ref C) = some true
  sup : PySem.W.ks_superIn K C C "__init__" = some (some (.builtin "ValueError.__init__"))
  subV : PySem.W.subIn K (.ref C) (.type "ValueError") = some true
  noat : ∀ x ∈ flds, PySem.W.findIn K (.ref C) x = some none
def xclsB (K : PySem.W.Frag) (x : Str) (flds : List Str) : Bool :=
  xcB K (ga K x) && (eqO (PySem.W.findIn K (.ref (ga K x)) "__setattr__") (some (some (.builtin "object.__setattr__"))) && (xfB K (ga K x) && (eqO (PySem.W.findIn K (.ref (ga K x)) "__init__") (some (some (.ref (ma K (ga K x) "__init__")))) &&
  (decide (PySem.W.typeIn K (.ref (ma K (ga K x) "__init__")) = some (.type "function")) && (PySem.W.keepIn K (.ref (ga K x)) && (decide (PySem.W.typeIn K (.ref (ga K x)) = some (.type "type")) && (decide (PySem.W.mroIn K (ga K x) (.ref (ga K x)) = some true) &&
  (eqO (PySem.W.ks_superIn K (ga K x) (ga K x) "__init__") (some (some (.builtin "ValueError.__init__"))) && (decide (PySem.W.subIn K (.ref (ga K x)) (.type "ValueError") = some true) && flds.all fun y => eqO (PySem.W.findIn K (.ref (ga K x)) y) (some none))))))))))
theorem xcls_ok {K : PySem.W.Frag} {x : Str} {flds : List Str} (h : xclsB K x flds = true) : XCls K (ga K x) (ma K (ga K x) "__init__") flds := by
  obtain ⟨h1, h⟩ := ba h
  obtain ⟨h2, h⟩ := ba h
  obtain ⟨h3, h⟩ := ba h
  obtain ⟨h4, h⟩ := ba h
  obtain ⟨h5, h⟩ := ba h
  obtain ⟨h6, h⟩ := ba h
  obtain ⟨h7, h⟩ := ba h
  obtain ⟨h8, h⟩ := ba h
  obtain ⟨h9, h⟩ := ba h
  obtain ⟨h10, h11⟩ := ba h
  exact ⟨xcB_ok h1, eqO_ok h2, xfB_ok h3, eqO_ok h4, of_decide_eq_true h5, h6, of_decide_eq_true h7, of_decide_eq_true h8, eqO_ok h9, of_decide_eq_true h10, fun y hy => eqO_ok (List.all_eq_true.mp h11 y hy)⟩
/-! ### isinstance: what an instance of an own class wants; answers -/
structure InsC (K : PySem.W.Frag) (C : Addr) : Prop where
  cl : Cls K C
  ha : PySem.W.findIn K (.ref C) "__class__" = some (some (.builtin "object.__class__"))
  hn : PySem.W.specialIn K (.builtin "object.__class__") "__get__" = some (some (.builtin "getset_descriptor.__get__"))
  htk : PySem.W.takesIn K (.builtin "object.__class__") = some true
  hm : PySem.W.mroIn K C (.type "object") = some true
def insB (K : PySem.W.Frag) (x : Str) : Bool := (Fa.cls x).ok K && (eqO (PySem.W.findIn K (.ref (ga K x)) "__class__") (some (some (.builtin "object.__class__"))) && (eqO (PySem.W.specialIn K (.builtin "object.__class__") "__get__") (some (some (.builtin "getset_descriptor.__get__"))) &&
  (decide (PySem.W.takesIn K (.builtin "object.__class__") = some true) && decide (PySem.W.mroIn K (ga K x) (.type "object") = some true))))
theorem ins_ok {K : PySem.W.Frag} {x : Str} (h : insB K x = true) : InsC K (ga K x) := by
  obtain ⟨h1, h⟩ := ba h
  obtain ⟨h2, h⟩ := ba h
  obtain ⟨h3, h⟩ := ba h
  obtain ⟨h4, h5⟩ := ba h
  exact ⟨cls_ok h1, eqO_ok h2, eqO_ok h3, of_decide_eq_true h4, of_decide_eq_true h5⟩
theorem InsC.ty {K : PySem.W.Frag} {C : Addr} (T : InsC K C) {H : Hp} {a dx : Addr} {fs : List (Str × V)} (e : H a = some (.ins C dx fs)) : TyX K H (.ref a) (.ref C) := .base (.ins e T.cl T.ha T.hn T.htk T.hm)
/-- a kind: a built-in type, an own class by its name -/
abbrev Kd := Sum String Str
def kdV (K : PySem.W.Frag) : Kd → Value
  | .inl n => .type n
  | .inr x => .ref (ga K x)
def kiB (K : PySem.W.Frag) (q : Kd × Kd × Bool) : Bool := decide (PySem.W.kitOne K (kdV K q.1) (kdV K q.2.1) = some q.2.2)
theorem ki_ok {K : PySem.W.Frag} {l : List (Kd × Kd × Bool)} (h : l.all (kiB K) = true) (i : Nat) {q : Kd × Kd × Bool} (e : l[i]? = some q) : PySem.W.kitOne K (kdV K q.1) (kdV K q.2.1) = some q.2.2 :=
  of_decide_eq_true (List.all_eq_true.mp h q (List.mem_of_getElem? e))
/-- the statics; gcd -/
def stB (K : PySem.W.Frag) : Bool := eqO (PySem.W.nsIn K cStatics "thirdparty.any") (some none)
def gcdB (K : PySem.W.Frag) : Bool := eqO (PySem.W.nsIn K mainGlobals "gcd") (some (some (.builtin "math.gcd")))
end TC
set_option maxHeartbeats 2000000
/-! The hook over the objects at given addresses. -/
namespace TC
open PySem PySem.Spec PyProof.Rows L2 He
def kL (as : List Addr) (g : Addr → Option Obj) : PySem.W.Frag := frT g (cStatics :: as)
def obsL (as : List Addr) (fa : List Fa) (fn : List DefD) (er : List ErD) (tf : List Defn) (ex : PySem.W.Frag → Bool) (g : Addr → Option Obj) : AlZ :=
  (obsD fa fn (kL as g), er.map (fun p => fnE (kL as g) (erAt (kL as g) p)), (er.all fun p => xfnB (kL as g) (ga (kL as g) p.1) (erAt (kL as g) p) p.qual) && (ex (kL as g) && tabsB g tf (kL as g)))
theorem saysL_of {as : List Addr} {fa : List Fa} {fn : List DefD} {er : List ErD} {tf : List Defn} {ex : PySem.W.Frag → Bool} {h : Heap} (e : obsL as fa fn er tf ex h.get? = valZ fn er) : SaysZ fa fn er tf ex h (kL as h.get?) := by
  have e1 : obsD fa fn (kL as h.get?) = valD fn := congrArg Prod.fst e
  have e2 : er.map (fun p => fnE (kL as h.get?) (erAt (kL as h.get?) p)) = er.map erVal := congrArg (fun z : AlZ => z.2.1) e
  have e3 : ((er.all fun p => xfnB (kL as h.get?) (ga (kL as h.get?) p.1) (erAt (kL as h.get?) p) p.qual) && (ex (kL as h.get?) && tabsB h.get? tf (kL as h.get?))) = true := congrArg (fun z : AlZ => z.2.2) e
  obtain ⟨m0, e4⟩ := ba e3
  obtain ⟨m1, m2⟩ := ba e4
  have look : ∀ p ∈ tf, PySem.W.codeHdIn (kL as h.get?) (cT (kL as h.get?) p).1 (cT (kL as h.get?) p).2 = true ∧ ∃ o, h.get? (cT (kL as h.get?) p).2 = some o ∧ emptyTab o = true := by
    intro p hp
    obtain ⟨m3, m4⟩ := ba (List.all_eq_true.mp m2 p hp)
    refine ⟨m3, ?_⟩
    cases q : h.get? (cT (kL as h.get?) p).2 with
    | none => rw [q] at m4; cases m4
    | some o => rw [q] at m4; exact ⟨o, rfl, m4⟩
  refine ⟨e1, e2, fun p hp => List.all_eq_true.mp m0 p hp, m1, fun p hp => (look p hp).1, fun p hp => ?_, fun p hp => ?_⟩
  · obtain ⟨_, o, q, z⟩ := look p hp
    exact frT_none q z
  · obtain ⟨_, o, q, z⟩ := look p hp
    rw [q, emptyTab_eq z]
def hookL (as : List Addr) (fa : List Fa) (fn : List DefD) (er : List ErD) (tf : List Defn) (ex : PySem.W.Frag → Bool) : PySem.W.Hook where
  α := AlZ
  obs := fun s => obsL as fa fn er tf ex s.heap.get?
  val := fun _ => valZ fn er
  says := fun _ h => ∃ K : PySem.W.Frag, K.In h ∧ SaysZ fa fn er tf ex h K
  of := fun _ _ e => ⟨_, frT_in, saysL_of e⟩
  keeps := fun _ _ _ ⟨K, hK, c⟩ k => ⟨K, PySem.W.Frag.In.keeps hK k, ⟨c.d, c.erE, c.erB, c.more, c.hd, c.out, fun p hp => k _ _ (c.empty p hp)⟩⟩
theorem obsL_eq {as : List Addr} {fa : List Fa} {fn : List DefD} {er : List ErD} {tf : List Defn} {ex : PySem.W.Frag → Bool} {g : Addr → Option Obj} {s : Shared} (h : ∀ a, g a = s.heap.get? a) : obsL as fa fn er tf ex g = (hookL as fa fn er tf ex).obs s := by
  have e : g = s.heap.get? := funext h
  rw [e]
  rfl
end TC
set_option maxHeartbeats 0
namespace K42
open PySem PySem.Spec PyProof.Rows L2 He TC
def top (i : Nat) : Stmt := PySem.Challenge.pw_touchcurves_k42_whole_polynomials_of_kno.main.body.getD i (.Pass ⟨0, 0, 0, 0⟩)
abbrev s_wall : Stmt := top 1
abbrev s_BadNumber_init : Stmt := inClass (top 4) 0
abbrev s_BadRow_init : Stmt := inClass (top 5) 0
abbrev s_BadItem_init : Stmt := inClass (top 6) 0
abbrev s_TooMany_init : Stmt := inClass (top 7) 0
abbrev s_BadCurve_init : Stmt := inClass (top 8) 0
abbrev s_NotBranched_init : Stmt := inClass (top 10) 0
abbrev s_BadCharacters_init : Stmt := inClass (top 11) 0
abbrev s_NotStraight_init : Stmt := inClass (top 13) 0
abbrev s_BadType_init : Stmt := inClass (top 14) 0
abbrev s_is_integer : Stmt := top 16
abbrev s_is_count : Stmt := top 17
abbrev s_is_row : Stmt := top 18
abbrev s_kept : Stmt := top 19
abbrev s_power_of : Stmt := top 20
abbrev s_Ratio_init : Stmt := inClass (top 22) 0
abbrev s_Ratio_eq : Stmt := inClass (top 22) 1
abbrev s_Ratio_str : Stmt := inClass (top 22) 2
abbrev s_Ratio_neg : Stmt := inClass (top 22) 3
abbrev s_Ratio_add : Stmt := inClass (top 22) 4
abbrev s_Ratio_radd : Stmt := inClass (top 22) 5
abbrev s_Ratio_sub : Stmt := inClass (top 22) 6
abbrev s_Ratio_rsub : Stmt := inClass (top 22) 7
abbrev s_Ratio_mul : Stmt := inClass (top 22) 8
abbrev s_Ratio_rmul : Stmt := inClass (top 22) 9
abbrev s_Ratio_power : Stmt := inClass (top 22) 10
abbrev s_Ratio_less : Stmt := inClass (top 22) 11
abbrev s_Ratio_over : Stmt := inClass (top 22) 12
abbrev s_Ratio_floor : Stmt := inClass (top 22) 13
abbrev s_ratio_power : Stmt := top 23
abbrev s_is_number : Stmt := top 24
abbrev s_plain_ratio : Stmt := top 25
abbrev s_ratio_of : Stmt := top 26
abbrev s_need_numbers : Stmt := top 27
abbrev s_without_zeros : Stmt := top 29
abbrev s_part_at : Stmt := top 30
abbrev s_numbers_sum : Stmt := top 31
abbrev s_numbers_less : Stmt := top 32
abbrev s_numbers_times : Stmt := top 33
abbrev s_Poly_init : Stmt := inClass (top 34) 0
abbrev s_Poly_eq : Stmt := inClass (top 34) 1
abbrev s_Poly_neg : Stmt := inClass (top 34) 2
abbrev s_Poly_add : Stmt := inClass (top 34) 3
abbrev s_Poly_radd : Stmt := inClass (top 34) 4
abbrev s_Poly_sub : Stmt := inClass (top 34) 5
abbrev s_Poly_rsub : Stmt := inClass (top 34) 6
abbrev s_Poly_mul : Stmt := inClass (top 34) 7
abbrev s_Poly_rmul : Stmt := inClass (top 34) 8
abbrev s_Poly_at : Stmt := inClass (top 34) 9
abbrev s_Poly_power : Stmt := inClass (top 34) 10
abbrev s_Poly_put_in : Stmt := inClass (top 34) 11
abbrev s_Poly_derived : Stmt := inClass (top 34) 12
abbrev s_Poly_over : Stmt := inClass (top 34) 13
abbrev s_poly_power : Stmt := top 35
abbrev s_need_plain_poly : Stmt := top 36
abbrev s_poly_value_at : Stmt := top 37
abbrev s_divided : Stmt := top 38
abbrev s_Characters_init : Stmt := inClass (top 43) 0
abbrev s_Characters_eq : Stmt := inClass (top 43) 1
abbrev s_NoCharacters_init : Stmt := inClass (top 44) 0
abbrev s_NoCharacters_eq : Stmt := inClass (top 44) 1
abbrev s_is_integers : Stmt := top 45
abbrev s_shares_of : Stmt := top 46
abbrev s_characters_breach : Stmt := top 47
abbrev s_need_integers : Stmt := top 48
abbrev s_settled_character : Stmt := top 49
abbrev s_settle_character : Stmt := top 50
abbrev s_need_character : Stmt := top 51
abbrev s_cable_of : Stmt := top 53
abbrev s_generators_of : Stmt := top 55
abbrev s_conductor_of : Stmt := top 56
abbrev s_times_of : Stmt := top 57
abbrev s_times_factor : Stmt := top 59
abbrev s_over_factor : Stmt := top 60
abbrev s_product_of : Stmt := top 61
abbrev s_knot_factors : Stmt := top 62
abbrev s_knot_poly : Stmt := top 63
abbrev s_orders_poly : Stmt := top 64
abbrev s_law_pen : Stmt := top 66
abbrev s_law_draw : Stmt := top 67
abbrev s_law_pick : Stmt := top 68
abbrev s_law_listed : Stmt := top 69
abbrev s_law_g_caught : Stmt := top 70
abbrev s_law_g_gcd : Stmt := top 71
abbrev s_law_g_shares : Stmt := top 72
abbrev s_law_g_conductor : Stmt := top 73
abbrev s_law_g_rows : Stmt := top 74
abbrev s_law_t_times : Stmt := top 75
abbrev s_law_t_is : Stmt := top 76
abbrev s_law_t_cable : Stmt := top 77
abbrev s_law_t_knot : Stmt := top 78
abbrev s_law_generators : Stmt := top 79
abbrev s_law_orders : Stmt := top 80
abbrev s_law : Stmt := top 81
def d_is_integer : DefD := ⟨("is_integer", none), "is_integer", "is_integer", defArgs s_is_integer, defBody s_is_integer, defScope s_is_integer, [], []⟩
def d_is_count : DefD := ⟨("is_count", none), "is_count", "is_count", defArgs s_is_count, defBody s_is_count, defScope s_is_count, [.non], []⟩
def d_is_row : DefD := ⟨("is_row", none), "is_row", "is_row", defArgs s_is_row, defBody s_is_row, defScope s_is_row, [], []⟩
def d_kept : DefD := ⟨("kept", none), "kept", "kept", defArgs s_kept, defBody s_kept, defScope s_kept, [], []⟩
def d_Ratio_init : DefD := ⟨("Ratio", some "__init__"), "__init__", "Ratio.__init__", defArgs s_Ratio_init, defBody s_Ratio_init, defScope s_Ratio_init, [.int 1], []⟩
def d_Ratio_eq : DefD := ⟨("Ratio", some "__eq__"), "__eq__", "Ratio.__eq__", defArgs s_Ratio_eq, defBody s_Ratio_eq, defScope s_Ratio_eq, [], []⟩
def d_Ratio_add : DefD := ⟨("Ratio", some "__add__"), "__add__", "Ratio.__add__", defArgs s_Ratio_add, defBody s_Ratio_add, defScope s_Ratio_add, [], []⟩
def d_Ratio_mul : DefD := ⟨("Ratio", some "__mul__"), "__mul__", "Ratio.__mul__", defArgs s_Ratio_mul, defBody s_Ratio_mul, defScope s_Ratio_mul, [], []⟩
def d_is_number : DefD := ⟨("is_number", none), "is_number", "is_number", defArgs s_is_number, defBody s_is_number, defScope s_is_number, [], []⟩
def d_plain_ratio : DefD := ⟨("plain_ratio", none), "plain_ratio", "plain_ratio", defArgs s_plain_ratio, defBody s_plain_ratio, defScope s_plain_ratio, [], []⟩
def d_ratio_of : DefD := ⟨("ratio_of", none), "ratio_of", "ratio_of", defArgs s_ratio_of, defBody s_ratio_of, defScope s_ratio_of, [], []⟩
def d_need_numbers : DefD := ⟨("need_numbers", none), "need_numbers", "need_numbers", defArgs s_need_numbers, defBody s_need_numbers, defScope s_need_numbers, [], []⟩
def d_without_zeros : DefD := ⟨("without_zeros", none), "without_zeros", "without_zeros", defArgs s_without_zeros, defBody s_without_zeros, defScope s_without_zeros, [], []⟩
def d_Poly_init : DefD := ⟨("Poly", some "__init__"), "__init__", "Poly.__init__", defArgs s_Poly_init, defBody s_Poly_init, defScope s_Poly_init, [.adr (dflAt ("Poly", some "__init__") 0)], []⟩
def d_Poly_eq : DefD := ⟨("Poly", some "__eq__"), "__eq__", "Poly.__eq__", defArgs s_Poly_eq, defBody s_Poly_eq, defScope s_Poly_eq, [], []⟩
def d_Poly_at : DefD := ⟨("Poly", some "at"), "at", "Poly.at", defArgs s_Poly_at, defBody s_Poly_at, defScope s_Poly_at, [], []⟩
def d_poly_value_at : DefD := ⟨("poly_value_at", none), "poly_value_at", "poly_value_at", defArgs s_poly_value_at, defBody s_poly_value_at, defScope s_poly_value_at, [], []⟩
def d_Characters_init : DefD := ⟨("Characters", some "__init__"), "__init__", "Characters.__init__", defArgs s_Characters_init, defBody s_Characters_init, defScope s_Characters_init, [], []⟩
def d_Characters_eq : DefD := ⟨("Characters", some "__eq__"), "__eq__", "Characters.__eq__", defArgs s_Characters_eq, defBody s_Characters_eq, defScope s_Characters_eq, [], []⟩
def d_NoCharacters_init : DefD := ⟨("NoCharacters", some "__init__"), "__init__", "NoCharacters.__init__", defArgs s_NoCharacters_init, defBody s_NoCharacters_init, defScope s_NoCharacters_init, [], []⟩
def d_NoCharacters_eq : DefD := ⟨("NoCharacters", some "__eq__"), "__eq__", "NoCharacters.__eq__", defArgs s_NoCharacters_eq, defBody s_NoCharacters_eq, defScope s_NoCharacters_eq, [], []⟩
def d_is_integers : DefD := ⟨("is_integers", none), "is_integers", "is_integers", defArgs s_is_integers, defBody s_is_integers, defScope s_is_integers, [], []⟩
def d_shares_of : DefD := ⟨("shares_of", none), "shares_of", "shares_of", defArgs s_shares_of, defBody s_shares_of, defScope s_shares_of, [], []⟩
def d_characters_breach : DefD := ⟨("characters_breach", none), "characters_breach", "characters_breach", defArgs s_characters_breach, defBody s_characters_breach, defScope s_characters_breach, [], []⟩
def d_need_integers : DefD := ⟨("need_integers", none), "need_integers", "need_integers", defArgs s_need_integers, defBody s_need_integers, defScope s_need_integers, [], []⟩
def d_settled_character : DefD := ⟨("settled_character", none), "settled_character", "settled_character", defArgs s_settled_character, defBody s_settled_character, defScope s_settled_character, [], []⟩
def d_settle_character : DefD := ⟨("settle_character", none), "settle_character", "settle_character", defArgs s_settle_character, defBody s_settle_character, defScope s_settle_character, [], []⟩
def d_need_character : DefD := ⟨("need_character", none), "need_character", "need_character", defArgs s_need_character, defBody s_need_character, defScope s_need_character, [], []⟩
def d_cable_of : DefD := ⟨("cable_of", none), "cable_of", "cable_of", defArgs s_cable_of, defBody s_cable_of, defScope s_cable_of, [], []⟩
def d_generators_of : DefD := ⟨("generators_of", none), "generators_of", "generators_of", defArgs s_generators_of, defBody s_generators_of, defScope s_generators_of, [], []⟩
def d_conductor_of : DefD := ⟨("conductor_of", none), "conductor_of", "conductor_of", defArgs s_conductor_of, defBody s_conductor_of, defScope s_conductor_of, [], []⟩
def d_times_of : DefD := ⟨("times_of", none), "times_of", "times_of", defArgs s_times_of, defBody s_times_of, defScope s_times_of, [], []⟩
def d_times_factor : DefD := ⟨("times_factor", none), "times_factor", "times_factor", defArgs s_times_factor, defBody s_times_factor, defScope s_times_factor, [], []⟩
def d_over_factor : DefD := ⟨("over_factor", none), "over_factor", "over_factor", defArgs s_over_factor, defBody s_over_factor, defScope s_over_factor, [], []⟩
def d_product_of : DefD := ⟨("product_of", none), "product_of", "product_of", defArgs s_product_of, defBody s_product_of, defScope s_product_of, [], []⟩
def d_knot_factors : DefD := ⟨("knot_factors", none), "knot_factors", "knot_factors", defArgs s_knot_factors, defBody s_knot_factors, defScope s_knot_factors, [], []⟩
def d_knot_poly : DefD := ⟨("knot_poly", none), "knot_poly", "knot_poly", defArgs s_knot_poly, defBody s_knot_poly, defScope s_knot_poly, [], []⟩
def d_orders_poly : DefD := ⟨("orders_poly", none), "orders_poly", "orders_poly", defArgs s_orders_poly, defBody s_orders_poly, defScope s_orders_poly, [], []⟩
def d_law_pen : DefD := ⟨("_law_pen", none), "_law_pen", "_law_pen", defArgs s_law_pen, defBody s_law_pen, defScope s_law_pen, [], []⟩
def d_law_draw : DefD := ⟨("_law_draw", none), "_law_draw", "_law_draw", defArgs s_law_draw, defBody s_law_draw, defScope s_law_draw, [], []⟩
def d_law_pick : DefD := ⟨("_law_pick", none), "_law_pick", "_law_pick", defArgs s_law_pick, defBody s_law_pick, defScope s_law_pick, [], []⟩
def d_law_listed : DefD := ⟨("_law_listed", none), "_law_listed", "_law_listed", defArgs s_law_listed, defBody s_law_listed, defScope s_law_listed, [], []⟩
def d_law_g_caught : DefD := ⟨("_law_g_caught", none), "_law_g_caught", "_law_g_caught", defArgs s_law_g_caught, defBody s_law_g_caught, defScope s_law_g_caught, [], []⟩
def d_law_g_gcd : DefD := ⟨("_law_g_gcd", none), "_law_g_gcd", "_law_g_gcd", defArgs s_law_g_gcd, defBody s_law_g_gcd, defScope s_law_g_gcd, [], []⟩
def d_law_g_shares : DefD := ⟨("_law_g_shares", none), "_law_g_shares", "_law_g_shares", defArgs s_law_g_shares, defBody s_law_g_shares, defScope s_law_g_shares, [], []⟩
def d_law_g_conductor : DefD := ⟨("_law_g_conductor", none), "_law_g_conductor", "_law_g_conductor", defArgs s_law_g_conductor, defBody s_law_g_conductor, defScope s_law_g_conductor, [], []⟩
def d_law_g_rows : DefD := ⟨("_law_g_rows", none), "_law_g_rows", "_law_g_rows", defArgs s_law_g_rows, defBody s_law_g_rows, defScope s_law_g_rows, [], []⟩
def d_law_t_times : DefD := ⟨("_law_t_times", none), "_law_t_times", "_law_t_times", defArgs s_law_t_times, defBody s_law_t_times, defScope s_law_t_times, [], []⟩
def d_law_t_is : DefD := ⟨("_law_t_is", none), "_law_t_is", "_law_t_is", defArgs s_law_t_is, defBody s_law_t_is, defScope s_law_t_is, [], []⟩
def d_law_t_cable : DefD := ⟨("_law_t_cable", none), "_law_t_cable", "_law_t_cable", defArgs s_law_t_cable, defBody s_law_t_cable, defScope s_law_t_cable, [], []⟩
def d_law_t_knot : DefD := ⟨("_law_t_knot", none), "_law_t_knot", "_law_t_knot", defArgs s_law_t_knot, defBody s_law_t_knot, defScope s_law_t_knot, [], []⟩
def d_law_generators : DefD := ⟨("_law_generators", none), "_law_generators", "_law_generators", defArgs s_law_generators, defBody s_law_generators, defScope s_law_generators, [], []⟩
def d_law_orders : DefD := ⟨("_law_orders", none), "_law_orders", "_law_orders", defArgs s_law_orders, defBody s_law_orders, defScope s_law_orders, [], []⟩
def d_law : DefD := ⟨("law", none), "law", "law", defArgs s_law, defBody s_law, defScope s_law, [], []⟩
def fn : List DefD := [d_is_integer, d_is_count, d_is_row, d_kept, d_Ratio_init, d_Ratio_eq, d_Ratio_add, d_Ratio_mul, d_is_number, d_plain_ratio, d_ratio_of, d_need_numbers, d_without_zeros, d_Poly_init, d_Poly_eq, d_Poly_at, d_poly_value_at, d_Characters_init, d_Characters_eq, d_NoCharacters_init, d_NoCharacters_eq, d_is_integers, d_shares_of, d_characters_breach, d_need_integers, d_settled_character, d_settle_character, d_need_character, d_cable_of, d_generators_of, d_conductor_of, d_times_of, d_times_factor, d_over_factor, d_product_of, d_knot_factors, d_knot_poly, d_orders_poly, d_law_pen, d_law_draw, d_law_pick, d_law_listed, d_law_g_caught, d_law_g_gcd, d_law_g_shares, d_law_g_conductor, d_law_g_rows, d_law_t_times, d_law_t_is, d_law_t_cable, d_law_t_knot, d_law_generators, d_law_orders, d_law]
def fa : List Fa := [.glo "is_integer",
  .glo "is_count",
  .glo "is_row",
  .glo "kept",
  .glo "is_number",
  .glo "plain_ratio",
  .glo "ratio_of",
  .glo "need_numbers",
  .glo "without_zeros",
  .glo "poly_value_at",
  .glo "is_integers",
  .glo "shares_of",
  .glo "characters_breach",
  .glo "need_integers",
  .glo "settled_character",
  .glo "settle_character",
  .glo "need_character",
  .glo "cable_of",
  .glo "generators_of",
  .glo "conductor_of",
  .glo "times_of",
  .glo "times_factor",
  .glo "over_factor",
  .glo "product_of",
  .glo "knot_factors",
  .glo "knot_poly",
  .glo "orders_poly",
  .glo "_law_pen",
  .glo "_law_draw",
  .glo "_law_pick",
  .glo "_law_listed",
  .glo "_law_g_caught",
  .glo "_law_g_gcd",
  .glo "_law_g_shares",
  .glo "_law_g_conductor",
  .glo "_law_g_rows",
  .glo "_law_t_times",
  .glo "_law_t_is",
  .glo "_law_t_cable",
  .glo "_law_t_knot",
  .glo "_law_generators",
  .glo "_law_orders",
  .glo "law",
  .glo "Ratio",
  .cls "Ratio",
  .mkr "Ratio",
  .meth "Ratio" "__eq__",
  .meth "Ratio" "__add__",
  .meth "Ratio" "__mul__",
  .noat "Ratio" "top",
  .noat "Ratio" "bottom",
  .noat "Ratio" "sign",
  .noat "Ratio" "whole",
  .glo "Poly",
  .cls "Poly",
  .mkr "Poly",
  .meth "Poly" "__eq__",
  .meth "Poly" "at",
  .noat "Poly" "numbers",
  .noat "Poly" "degree",
  .noat "Poly" "lead",
  .glo "Characters",
  .cls "Characters",
  .mkr "Characters",
  .meth "Characters" "__eq__",
  .noat "Characters" "shares",
  .glo "NoCharacters",
  .cls "NoCharacters",
  .mkr "NoCharacters",
  .meth "NoCharacters" "__eq__",
  .noat "NoCharacters" "why",
  .noat "NoCharacters" "index",
  .int "MOST_FIRST" 60,
  .int "MOST_ITEM" 400,
  .int "MOST_LENGTH" 5,
  .free "len",
  .free "all",
  .free "any",
  .free "isinstance",
  .free "tuple",
  .free "list",
  .free "range",
  .free "enumerate",
  .free "zip",
  .free "sorted",
  .free "set",
  .free "min",
  .free "max",
  .free "sum",
  .free "abs",
  .free "int",
  .free "str",
  .free "bool",
  .free "repr",
  .free "super",
  .free "ValueError",
  .free "dict",
  .glo "TouchError",
  .glo "BadNumber",
  .glo "BadRow",
  .glo "BadItem",
  .glo "TooMany",
  .glo "BadCurve",
  .glo "SharesBranch",
  .glo "NotBranched",
  .glo "BadCharacters",
  .glo "NotOf",
  .glo "NotStraight",
  .glo "BadType"]
def er : List ErD := [("BadNumber", s_BadNumber_init), ("BadRow", s_BadRow_init), ("BadItem", s_BadItem_init), ("TooMany", s_TooMany_init), ("BadCurve", s_BadCurve_init), ("NotBranched", s_NotBranched_init), ("BadCharacters", s_BadCharacters_init), ("NotStraight", s_NotStraight_init), ("BadType", s_BadType_init)]
def tf : List Defn := [("law", none)]
end K42
set_option maxHeartbeats 0
namespace K42
open PySem PySem.Spec PyProof.Rows L2 He TC
def xl : List (Str × List Str) := [("BadNumber", ["what", "value"]), ("BadRow", ["value"]), ("BadItem", ["value"]), ("BadCharacters", ["answer"])]
def il : List Str := ["Characters", "NoCharacters", "Ratio", "Poly"]
def kl : List (Kd × Kd × Bool) := (["NoneType", "int", "str", "list", "tuple", "bool"].flatMap fun n => il.map fun c => (Sum.inl n, Sum.inr c, false)) ++ (il.flatMap fun a => il.map fun b => (Sum.inr a, Sum.inr b, decide (a = b))) ++
  (il.flatMap fun a => ["int", "str", "list", "tuple", "bool"].map fun n => (Sum.inr a, Sum.inl n, false))
def ml : List (Str × Str × Bool) := [("BadRow", "BadItem", false), ("BadRow", "BadNumber", false), ("BadRow", "BadRow", true), ("BadCharacters", "BadItem", false), ("BadCharacters", "BadNumber", false), ("BadCharacters", "BadRow", false), ("BadCharacters", "BadCharacters", true)]
def neB (K : PySem.W.Frag) (x : Str) : Bool := eqO (PySem.W.findIn K (.ref (ga K x)) "__ne__") (some (some (.builtin "object.__ne__")))
def nfB (K : PySem.W.Frag) (q : Str × Str) : Bool := PySem.W.notFirst K (ga K q.1) (.ref (ga K q.2))
def nl : List (Str × Str) := il.flatMap fun a => il.map fun b => (a, b)
def sfB (K : PySem.W.Frag) (x : Str) : Bool := PySem.W.selfFirst K (ga K x)
def ex (K : PySem.W.Frag) : Bool := stB K && (gcdB K && ((xl.all fun p => xclsB K p.1 p.2) && ((il.all (insB K)) && (kl.all (kiB K) && ((ml.all fun q => (Fa.exm q.1 q.2.1 q.2.2).ok K) && (il.all (neB K) && (nl.all (nfB K) && sfB K "Ratio")))))))
end K42
set_option maxHeartbeats 0
namespace K42
open PySem PySem.Spec PyProof.Rows L2 He TC
abbrev R : PySem.W.OpenRow := PySem.W.OpenLaw.row PySem.Challenge.rw_touchcurves_k42_whole_polynomials_of_kno
def as0 : List Addr := mainGlobals :: (List.range 1500).reverse
abbrev hk : PySem.W.Hook := hookL as0 fa fn er tf ex
def ob (s : PySem.W.SharedT) : AlZ := obsL as0 fa fn er tf ex (HandSHeadRun.getT s)
theorem ob_eq (s : PySem.W.SharedT) : ob s = hk.obs s.abs := obsL_eq (HandSHeadRun.getT_eq s)
def names1 : List PySem.Str := ["_wall", "TouchError", "BadNumber", "BadRow", "BadItem", "TooMany", "BadCurve", "SharesBranch", "NotBranched", "BadCharacters", "NotOf", "NotStraight", "BadType", "is_integer", "is_count", "is_row", "kept", "power_of", "Ratio", "ratio_power", "is_number", "plain_ratio", "ratio_of", "need_numbers", "without_zeros"]
def names2 : List PySem.Str := ["part_at", "numbers_sum", "numbers_less", "numbers_times", "Poly", "poly_power", "need_plain_poly", "poly_value_at", "divided", "MOST_FIRST", "MOST_ITEM", "MOST_LENGTH", "Characters", "NoCharacters", "is_integers", "shares_of", "characters_breach", "need_integers", "settled_character", "settle_character", "need_character", "cable_of", "generators_of", "conductor_of", "times_of"]
def names3 : List PySem.Str := ["times_factor", "over_factor", "product_of", "knot_factors", "knot_poly", "orders_poly", "_law_pen", "_law_draw", "_law_pick", "_law_listed", "_law_g_caught", "_law_g_gcd", "_law_g_shares", "_law_g_conductor", "_law_g_rows", "_law_t_times", "_law_t_is", "_law_t_cable", "_law_t_knot", "_law_generators", "_law_orders"]
def names : List PySem.Str := names1 ++ names2 ++ names3
theorem two {α β γ : Type} {o : Option α} {f : α → β} {g : α → γ} {b : β} {c : γ} (h : o.map f = some b) (k : o.map g = some c) : o.map (fun x => (f x, g x)) = some (b, c) := by
  cases o with
  | none => cases h
  | some x => cases h; cases k; rfl
theorem run_lk (w : World) : (HandSHeadRun.wholeF (fun p => HandSHeadRun.stepQ (HandSHeadRun.denQ HandSHeadRun.tabQ) p w) HandSHeadRun.fenceQ 15000 R.prog).map (fun x => HandSHeadRun.looksF R.prog x.1.heap x.2.abs) = some true := by kernel_rfl
theorem run_sn (w : World) : (HandSHeadRun.wholeF (fun p => HandSHeadRun.stepQ (HandSHeadRun.denQ HandSHeadRun.tabQ) p w) HandSHeadRun.fenceQ 15000 R.prog).map (fun x => HandSHeadRun.seenQ (PySem.W.view R.prog [0, 81]) names (importedModules R.prog.main.body) (fun s => PySem.W.xlAt (PySem.W.view R.prog [0, 81]) [] s && PySem.W.recOk R.toRowW.records s) x.2.abs) = some (PySem.W.openGood (PySem.W.view R.prog [0, 81]) names) := by kernel_rfl
theorem run_ob (w : World) : (HandSHeadRun.wholeF (fun p => HandSHeadRun.stepQ (HandSHeadRun.denQ HandSHeadRun.tabQ) p w) HandSHeadRun.fenceQ 15000 R.prog).map (fun x => ob x.2) = some (valZ fn er) := by kernel_rfl
theorem run (w : World) : HandSHeadRun.RunEqI R (PySem.W.view R.prog [0, 81]) hk ob 15000 names w := two (run_lk w) (two (run_sn w) (run_ob w))
end K42
set_option maxHeartbeats 2000000
/-! Own errors whose __init__ says super().__init__(value); self.f = value: made, raised. -/
namespace TC
open PySem PySem.W PySem.Calls PyProof.Rows PySem.HandSPX
/-- the text of such an __init__: one parameter behind self, one field -/
def erArgs (x : Str) (p1 p2 : Pos) : Arguments := { posonlyargs := [], args := [{ arg := "self", annotation := none, pos := p1 }, { arg := x, annotation := none, pos := p2 }], vararg := none, kwonlyargs := [], kw_defaults := [], kwarg := none, defaults := [] }
def erCall (x : Str) (q1 q2 q3 q4 q5 : Pos) : Expr := .Call (.Attribute (.Call (.Name "super" q1) [] [] q2) "__init__" q3) [.Name x q4] [] q5
def erBody (x f : Str) (q1 q2 q3 q4 q5 q6 r1 r2 r3 r4 : Pos) : List Stmt := [.Expr (erCall x q1 q2 q3 q4 q5) q6, .Assign [.Attribute (.Name "self" r1) f r2] (.Name x r3) r4]
def erScope (x : Str) : Scope := { kind := .function, names := [("self", .local), (x, .local), ("__class__", .free), ("super", .globalImplicit)], isGenerator := false, isCoroutine := false, more := [] }
section
variable {prog : Program} {w : World} {A : Around} {R : Result → Shared → Prop} {s : Shared} {K : Frag} {C fI cc : Addr} {mg mb : Str → Option Value}
theorem ldE {M : Model} {A : Around} {E : Value → Shared → Prop} {s : Shared} {env : Env} {m : Str → Option Value} {x : Str} {pos : Pos} {v : Value} {Q : Value → Shared → Prop} (hn : s.heap.Ns env.locals m) (hv : m x = some v) (hk : env.scope.kind = .function) (hl : env.kindOf x = some .local) (hd : (x == ("__debug__" : Str)) = false)
    (h : Q v s) : wpAny M A (eval (.Name x pos) env) Q E s := wpAny_Name (wpAny_loadName_local hk hl hn hv h) hd
/-- the bound ValueError.__init__ called -/
theorem er_bw {A : Around} {E : Value → Shared → Prop} {h : Heap} {g : Array GenState} {d : Drawn} {t : Nat} {os : OsState} {nm q : Str} {N : Addr} {bs bm : List Value} {hdct : Bool} {sn : List Str} {sub : List Value} {ab : Bool} {col : Option Bool} {dd : Option Addr} {k0 k1 k2 k3 k5 : Option Value}
    {u a t0 : Addr} {rest : List Value} {Q : Value → Shared → Prop} (hC : h.get? C = some (excClassObj nm q C N bs bm hdct sn sub ab col dd k0 k1 k2 k3 k5 "ValueError.__new__")) (ha : h.get? a = some (excO C t0)) (hu : h.get? u = some (kxs_mw "ValueError.__init__" a)) (hz : rest.length ≤ sizeLine)
    (hq : ∀ h' t1, (∀ b o, b ≠ a → h.get? b = some o → h'.get? b = some o) → h'.get? a = some (excO C t1) → Q .none ⟨h', g, d, t, os⟩) : wpAny (model prog w) A (call (.ref u) rest) Q E ⟨h, g, d, t, os⟩ := by
  refine wpAny_call (codeAny_of_tree ?_)
  show wpAny (model prog w) A.in1 (callAny (.ref u) ⟨rest, []⟩) _ _ ⟨h, g, d, t, os⟩
  simp only [callAny]
  refine wpAny_bind (wpAny_load hu ?_)
  have m1 : (Value.type "method-wrapper" == Value.type "method" || Value.type "method-wrapper" == Value.type "builtin_function_or_method" || Value.type "method-wrapper" == Value.type "method-wrapper") = true := by decide
  simp only [kxs_mw, m1, if_true]
  refine KFB.if_so (by decide) (wpAny_bind (check_bound_init F.excBase_ValueError.toExcCallFacts hC ha rfl (wpAny_bind (wpAny_pure (wpAny_pure ?_)))))
  refine ⟨plainId_quiet F.excBase_ValueError.init.plain _, codeAny_builtin F.excBase_ValueError.initEntry ?_⟩
  exact exc_init_tree (cls := .ref C) (t0 := t0) (dv := none) (c2 := .none) (c3 := .none) (b4 := .bool false) ha hz fun h' k e1 e2 => hq h' h.objs.size k e1
theorem er_init {x f qual : Str} {p1 p2 q1 q2 q3 q4 q5 q6 r1 r2 r3 r4 : Pos} {a t0 : Addr} {v : Value} (T : XCls K C fI [f]) (F : XFn K C fI cc qual (erArgs x p1 p2) (erBody x f q1 q2 q3 q4 q5 q6 r1 r2 r3 r4) (erScope x))
    (st : nsIn K cStatics "thirdparty.any" = some none) (hfile : ((prog.main.file : Str) == ("/claim/cut.py" : Str)) = true) (htop : (prog.main.scope.names.lookup ("super" : Str)).isSome = false)
    (X : K.In s.heap) (hlim : s.heap.NoLimit) (G : s.heap.Ns mainGlobals mg) (hsup : mg "super" = none) (B : s.heap.Ns builtinsNs mb) (hbb : mb "super" = bootBuiltins "super") (hx : s.heap.get? a = some (excO C t0)) (hnx : K.lookup a = none) (hroom : A.depth < recursionLimit)
    (hbind : ∀ (kV doc pm : Value) (an : Option Addr) (cdv ct : Value), bindArgs (ksFn "__init__" qual (erArgs x p1 p2) (erBody x f q1 q2 q3 q4 q5 q6 r1 r2 r3 r4) (erScope x) .none kV doc pm an cdv ct cc) ⟨[.ref a, v], []⟩ = pure [(("self" : Str), Value.ref a), (x, v)])
    (he : ∀ (kV doc pm : Value) (an : Option Addr) (cdv ct : Value) (L : Addr), ∃ pl : Sem Bool, eval (erCall x q1 q2 q3 q4 q5) (callEnv (ksFn "__init__" qual (erArgs x p1 p2) (erBody x f q1 q2 q3 q4 q5 q6 r1 r2 r3 r4) (erScope x) .none kV doc pm an cdv ct cc) L fI) = (do
      let ov ← attributeBase (.Call (.Name "super" q1) [] [] q2) "__init__" (callEnv (ksFn "__init__" qual (erArgs x p1 p2) (erBody x f q1 q2 q3 q4 q5 q6 r1 r2 r3 r4) (erScope x) .none kV doc pm an cdv ct cc) L fI) (eval (.Call (.Name "super" q1) [] [] q2) (callEnv (ksFn "__init__" qual (erArgs x p1 p2) (erBody x f q1 q2 q3 q4 q5 q6 r1 r2 r3 r4) (erScope x) .none kV doc pm an cdv ct cc) L fI))
      standAt q3.atName
      let (f', first) ← holding [ov] (getMethod ov "__init__" pl)
      callWith q5 f' first (backTo q5 (starEach [.Name x q4] (callEnv (ksFn "__init__" qual (erArgs x p1 p2) (erBody x f q1 q2 q3 q4 q5 q6 r1 r2 r3 r4) (erScope x) .none kV doc pm an cdv ct cc) L fI))) []))
    (hs1 : (erScope x).names.lookup ("super" : Str) = some .globalImplicit) (hs2 : (erScope x).names.lookup ("__class__" : Str) = some .free)
    (hxl : (erScope x).names.lookup x = some .local) (hxs : ((x == ("self" : Str)) = false)) (hxd : (x == ("__debug__" : Str)) = false)
    (hq : ∀ h' tk dx t1, (∀ b o, b ≠ a → s.heap.get? b = some o → h'.get? b = some o) → h'.get? a = some { cls := .ref C, dict := some dx, data := .fields #[.ref t1, .none, .none, .none, .bool false, .none] } → s.heap.objs.size ≤ dx → dx ≠ a →
      h'.Ns1 dx (fun y => if y = f then some v else none) → R (.ok (.ret .none)) { s with heap := h', toks := tk }) :
    codeAny (model prog w) A (.call (.ref fI) ⟨[.ref a, v], []⟩) R s := by
  obtain ⟨od, an, kV, doc, pm, ct, osl, cda, ccl, cdd, vs, ccs, tf, ho, hcode, hvs, hcd⟩ := F.ex
  obtain ⟨cl, cld, csl, hcell⟩ := F.cell
  obtain ⟨nm, q, N, bs, bm, sn, sub, ab, col, dd, k0, k1, k2, k3, k5, hC, hbm⟩ := T.cls
  have hcl : clsIn K C = some { name := nm, bases := bs, mro := .ref C :: bm, ns := N, qualname := q, hasDict := true, slotNames := sn, subclasses := sub, abstract := ab, collection := col, hasDel := false } := by unfold clsIn; rw [hC]
  have hne : a ≠ C := by
    rintro rfl
    have e := X _ _ hC
    rw [hx] at e
    have e2 := congrArg Obj.data (Option.some.inj e)
    cases e2
  refine ks_codeAny_call_defAt (fd := ksFn "__init__" qual (erArgs x p1 p2) (erBody x f q1 q2 q3 q4 q5 q6 r1 r2 r3 r4) (erScope x) .none kV doc pm an (.ref cda) ct cc) (body := erBody x f q1 q2 q3 q4 q5 q6 r1 r2 r3 r4) (binds := [("self", .ref a), (x, v)])
    hroom (X _ _ ho) rfl hlim (codeRec_of X hcd) rfl (BindsTo.of_eq (hbind _ _ _ _ _ _)) (by
      intro y hy
      have hy : y ∈ [(("self" : Str), NameKind.local), (x, .local), ("__class__", .free), ("super", .globalImplicit)] := hy
      simp only [List.mem_cons, List.not_mem_nil, or_false] at hy
      rcases hy with rfl | rfl | rfl | rfl <;> intro z <;> cases z) (by
      intro y hy
      have hy : y ∈ [(("self" : Str), Value.ref a), (x, v)] := hy
      simp only [List.mem_cons, List.not_mem_nil, or_false] at hy
      rcases hy with rfl | rfl
      · rfl
      · exact hxl) (fun h₁ hns hk₁ => ?_)
  have hxs' : ("self" == x) = false := by
    rw [Bool.eq_false_iff] at hxs ⊢
    intro z
    exact hxs (by rw [beq_iff_eq] at z ⊢; exact z.symm)
  have v1 : ([(("self" : Str), Value.ref a), (x, v)].reverse.lookup ("self" : Str)) = some (.ref a) := by
    show (match ("self" : Str) == x with | true => some v | false => (match ("self" : Str) == ("self" : Str) with | true => some (Value.ref a) | false => none)) = some (.ref a)
    rw [hxs']
    rfl
  have v2 : ([(("self" : Str), Value.ref a), (x, v)].reverse.lookup x) = some v := by
    show (match x == x with | true => some v | false => (match x == ("self" : Str) with | true => some (Value.ref a) | false => none)) = some v
    rw [beq_self_eq_true]
  have hL : s.heap.objs.size ≠ a := Nat.ne_of_gt (Heap.lt_size hx)
  have X1 : K.In h₁ := X.keeps hk₁
  have hx1 := hk₁ _ _ hx
  obtain ⟨hh, g, d, t, os⟩ := s
  have hD : hh.get? C = some (excClassObj nm q C N bs bm true sn sub ab col dd k0 k1 k2 k3 k5 "ValueError.__new__") := X _ _ hC
  have hD1 := hk₁ _ _ hD
  have n1 := hns
  show PySem.wpAt _ _ _ (execs (.Expr (erCall x q1 q2 q3 q4 q5) q6 :: [.Assign [.Attribute (.Name "self" r1) f r2] (.Name x r3) r4]) _) _ _ _
  obtain ⟨pl, heq⟩ := he kV doc pm an (.ref cda) ct hh.objs.size
  refine ks_wpAt_execs_cons (st := .Expr (erCall x q1 q2 q3 q4 q5) q6) (ks_wpAt_Expr_any (ks_wpAt_MethodCall (pl := pl) ?_ (he := heq)) rfl rfl)
  refine ks_wpAt_super_base (ar := { arg := "self", annotation := none, pos := p1 }) hs1 hs2 (by decide) rfl (hk₁ _ _ (X _ _ ho)) rfl rfl rfl (X1 _ _ hcode) rfl hvs hfile htop ?_
  refine ks_loadName_global rfl hs1 (loadGlobal_builtin (G.keeps hk₁) hsup (B.keeps hk₁) (hbb.trans (by decide +kernel)) ⟨rfl, ?_⟩)
  refine wpAny_loadName_free rfl hs2 rfl ⟨_, X1 _ _ hcell, rfl⟩ ?_
  refine wpAny_loadName_local rfl rfl n1 v1 ?_
  refine ks_wpAny_isType_cls hD1 rfl ⟨rfl, ?_⟩
  refine ks_wpAny_call_super hD1 rfl hx1 rfl (fun c e => by cases e) (looks_mroIn X1 T.mro) (fun h₂ e2 kk2 => ?_)
  have k2 : ∀ b o, hh.get? b = some o → h₂.get? b = some o := fun b o e => kk2 b o (hk₁ b o e)
  have X2 : K.In h₂ := X1.keeps kk2
  have hsup2 : alongIn K "__init__" (((Value.ref C :: bm).dropWhile (· != .ref C)).drop 1) = some (some (.builtin "ValueError.__init__")) := by
    have z := T.sup
    unfold ks_superIn at z
    rw [hcl] at z
    exact z
  refine kxs_getMethod kxs_ValueError e2 (looks_opaque X2 st) (l₀ := .ref C :: bm) (fun A Q E s k q => wpAny_bind ((looks_clsIn X2 hcl) A _ E s k (wpAny_pure q))) rfl X2 hsup2 ?_ hne (by decide) ?_
  · have J : InstAt h₂ a (excO C t0) C none := ⟨kk2 _ _ hx1, rfl, rfl, trivial⟩
    exact J.type.andThen (looks_subIn X2 T.subV)
  have a2 : h₂.get? a = some (excO C t0) := kk2 _ _ hx1
  have p2' : ∀ b o, h₂.get? b = some o → (h₂.push (kxs_mw "ValueError.__init__" a)).get? b = some o := fun b o e => Heap.get?_push_of_some _ e
  have hu : (h₂.push (kxs_mw "ValueError.__init__" a)).get? h₂.objs.size = some (kxs_mw "ValueError.__init__" a) := Heap.get?_push_at rfl rfl
  have n3 : (h₂.push (kxs_mw "ValueError.__init__" a)).Ns hh.objs.size (fun y => [(("self" : Str), Value.ref a), (x, v)].reverse.lookup y) := (n1.keeps kk2).keeps p2'
  refine kxs_callWith (i := "ValueError.__init__") (x := a) rfl (evalArgs_plain (Calls.spliced_cons (ldE n3 v2 rfl hxl hxd (Calls.spliced_nil ⟨hu, ?_⟩))))
  refine er_bw (p2' _ _ (kk2 _ _ hD1)) (p2' _ _ a2) hu (by rw [sizeLine_eq]; exact (by decide : 1 ≤ 16777216)) (fun h₄ t1 k4 a4 => ?_)
  -- self.f = value
  have k3 : ∀ b o, b ≠ a → h₁.get? b = some o → h₄.get? b = some o := fun b o hb e => k4 b o hb (p2' b o (kk2 b o e))
  have X4 : K.In h₄ := fun b o e => k3 b o (fun z => by rw [z, hnx] at e; cases e) (X1 b o e)
  have n4 : h₄.Ns hh.objs.size (fun y => [(("self" : Str), Value.ref a), (x, v)].reverse.lookup y) := by
    obtain ⟨o, es, ep, e1, e2, e3⟩ := n1
    exact ⟨o, es, ep, k3 _ _ hL e1, e2, e3⟩
  show PySem.wpAt _ _ _ (execs [.Assign [.Attribute (.Name "self" r1) f r2] (.Name x r3) r4] _) _ _ _
  refine wpAt_of_wpAny (wpAny_execs_cons (plainObj_wpAny_Assign_Attribute (ldE n4 v2 rfl hxl hxd (ldE n4 v1 rfl rfl (by decide) ?_))))
  refine set_plain X4 (ox := excO C t1) (od := none) ⟨a4, rfl, rfl, trivial⟩ T.sa ?_
  refine exc_osa X4 a4 hcl (show refsVE (.ref C :: bm) = true from hbm) rfl (T.noat f (List.mem_cons_self ..)) (fun h₅ tk₅ dx k5 dn dne a5 n5 => ?_)
  exact wpAny_execs_nil (hq h₅ tk₅ dx t1 (fun b o hb e => k5 b o hb (k3 b o hb (hk₁ b o e))) a5 (Nat.le_of_lt (Nat.lt_of_lt_of_le n4.lt dn)) dne n5)

/-- a made error -/
structure ErMade (h h' : Heap) (e C d : Addr) (f : Str) (v : Value) : Prop where
  keep : ∀ b o, h.get? b = some o → h'.get? b = some o
  new : h.objs.size ≤ e
  obj : ∃ oe vs, h'.get? e = some oe ∧ oe.cls = .ref C ∧ oe.dict = some d ∧ oe.data = .fields vs ∧ vs[1]? = some .none
  dbig : h.objs.size ≤ d
  dne : d ≠ e
  ns : h'.Ns1 d (fun y => if y = f then some v else none)
/-- all that is known of such a class, at C, for any world -/
structure ErTxt (prog : Program) (K : Frag) (C fI : Addr) (f : Str) : Prop where
  cls : XCls K C fI [f]
  run : ∀ (w : World) (A : Around) (R : Result → Shared → Prop) (s : Shared) (mg mb : Str → Option Value) (a t0 : Addr) (v : Value), K.In s.heap → s.heap.NoLimit → s.heap.Ns mainGlobals mg → mg "super" = none → s.heap.Ns builtinsNs mb → mb "super" = bootBuiltins "super" →
    s.heap.get? a = some (excO C t0) → K.lookup a = none → A.depth < recursionLimit →
    (∀ h' tk dx t1, (∀ b o, b ≠ a → s.heap.get? b = some o → h'.get? b = some o) → h'.get? a = some { cls := .ref C, dict := some dx, data := .fields #[.ref t1, .none, .none, .none, .bool false, .none] } → s.heap.objs.size ≤ dx → dx ≠ a →
      h'.Ns1 dx (fun y => if y = f then some v else none) → R (.ok (.ret .none)) { s with heap := h', toks := tk }) → codeAny (model prog w) A (.call (.ref fI) ⟨[.ref a, v], []⟩) R s
theorem er_made {f : Str} {v : Value} (T : ErTxt prog K C fI f) (X : K.In s.heap) (hlim : s.heap.NoLimit) (G : s.heap.Ns mainGlobals mg) (hsup : mg "super" = none) (B : s.heap.Ns builtinsNs mb) (hbb : mb "super" = bootBuiltins "super") (hroom : A.depth + 1 < recursionLimit)
    (hq : ∀ h' tk e d, ErMade s.heap h' e C d f v → R (.ok (.ret (.ref e))) { s with heap := h', toks := tk }) : codeAny (model prog w) A (.call (.ref C) ⟨[v], []⟩) R s := by
  obtain ⟨nm, q, N, bs, bm, sn, sub, ab, col, dd, k0, k1, k2, k3, k5, hC, hbm⟩ := T.cls.cls
  obtain ⟨hp, g, dr, tk, os⟩ := s
  have up : ∀ b o, hp.get? b = some o → ((hp.push (kdv_tup [v])).push (excO C hp.objs.size)).get? b = some o := fun b o e => Heap.get?_push_of_some _ (Heap.get?_push_of_some _ e)
  have at_ : ((hp.push (kdv_tup [v])).push (excO C hp.objs.size)).get? (hp.objs.size + 1) = some (excO C hp.objs.size) := by heap_get
  have out : K.lookup (hp.objs.size + 1) = none := by
    cases e : K.lookup (hp.objs.size + 1) with
    | none => rfl
    | some o => exact absurd (Nat.lt_of_succ_lt (Heap.lt_size (show hp.get? (hp.objs.size + 1) = some o from X _ _ e))) (Nat.lt_irrefl _)
  refine call_own F.excBase_ValueError (fun Y => refsVE_contains Y bm hbm) (X _ _ hC) (looks_findIn X T.cls.ini) (fun self => bind_fn X self T.cls.tyF) (by rw [sizeLine_eq]; exact (by decide : 1 ≤ 16777216)) ?_
  refine T.run w _ _ ⟨(hp.push (kdv_tup [v])).push (excO C hp.objs.size), g, dr, tk, os⟩ mg mb _ _ v (X.keeps up) (hlim.keeps up) (G.keeps up) hsup (B.keeps up) hbb at_ out (show A.depth + 1 < recursionLimit from hroom) (fun h' tk' dx t1 k' a' dn dne hns => ?_)
  have old : ∀ b o, hp.get? b = some o → h'.get? b = some o := fun b o e => k' b o (Nat.ne_of_lt (Nat.lt_succ_of_lt (Heap.lt_size e))) (up b o e)
  have z : hp.objs.size + 1 + 1 ≤ dx := by
    first
      | exact dn
      | (simpa only [Heap.size_push] using dn)
  exact ⟨rfl, hq h' tk' (hp.objs.size + 1) dx ⟨old, Nat.le_succ _, ⟨_, _, a', rfl, rfl, rfl, rfl⟩, Nat.le_trans (Nat.le_trans (Nat.le_succ _) (Nat.le_succ _)) z, dne, hns⟩⟩
end
end TC
set_option maxHeartbeats 2000000
/-! The rules over the layer: X(e), raise X(e). -/
namespace TC
open PySem PySem.Spec PyProof.Rows L2
theorem relO_one {f : Str} {v : V} {v' : Value} (r : RelV v v') (y : Str) : RelO (List.lookup y [(f, v)]) (if y = f then some v' else none) := by
  by_cases h : y = f
  · subst h
    rw [if_pos rfl]
    have q : List.lookup y [(y, v)] = some v := by simp [List.lookup]
    rw [q]
    exact r
  · rw [if_neg h]
    have q0 : (y == f) = false := by simpa using h
    have q : List.lookup y [(f, v)] = none := by simp [List.lookup, q0]
    rw [q]
    trivial
section
variable {X : Cx} {C fI : Addr} {f : Str}
/-- X(e): the class, the new dict with the one field -/
def tMkEr (C : Addr) (f : Str) (ta : TA) : L2.St → Hp → XK → Prop := fun σ H Q => ta σ H fun vs H1 => ∃ v, vs = [v] ∧ ∀ d, H1 d = none → Q (.ref C) (some d) (upd H1 d (.xd [(f, v)]))
theorem pmk_er {x : Str} {a : Expr} {ta : TA} {p pos : Pos} {k : Nat} (T : ErTxt X.prog X.K C fI f) (hr : Room k X.A) (hsup : X.mg "super" = none) (gC : X.mg x = some (.ref C)) (ha : PA X [a] ta) (hg : Gl X x := by rfl) (hdb : (x == ("__debug__" : Str)) = false := by decide)
    (he : starEach (a :: []) X.env = (false, eval a X.env) :: starEach [] X.env := by rfl) (hpl : (backTo pos (starEach [] X.env)).any (·.1) = false := by rfl) :
    PMk X (.Call (.Name x p) [a] [] pos) (tMkEr C f ta) := by
  intro pins s σ H Q I h
  refine wpAny_Call_Name_kw (ld_glob I hg gC ?_ hdb)
  refine PySem.W.callWith_K (h₀ := X.base) I.ok.mod.kin T.cls.kC (thn (ha.run pos pins s σ H _ I h) fun us s1 hh => ?_) he hpl
  obtain ⟨vs, H1, I1, r1, v, ev, q1⟩ := hh
  subst ev
  refine ⟨I1.kIn, ?_⟩
  cases r1 with
  | cons rv rn =>
    rename_i v' us'
    cases rn
    show wpAny _ _ (call (.ref C) [v']) _ _ _
    have hlim := I1.nolimit
    have hG := I1.ok.mod.glob.keeps I1.bk
    obtain ⟨mb, hB, hbb⟩ := I1.ok.mod.blt
    have hB' := hB.keeps I1.bk
    obtain ⟨hp, g, dr, tk, os⟩ := s1
    refine wpAny_call (er_made T I1.kIn hlim hG hsup hB' (hbb _ (by decide)) (by have := hr.dp; omega) fun h' tk' e d M => ?_)
    show MkP X pins σ Q (.ref e) ⟨h', g, dr, tk', os⟩
    obtain ⟨oe, fv, hoe, hc, hd, hdat, h1⟩ := M.obj
    have hns := M.ns
    obtain ⟨G', g1, g2⟩ := restrict h' fun b => decide (b ≠ e)
    have gk : ∀ b, b ≠ e → G'.get? b = h'.get? b := fun b hb => g1 b (decide_eq_true hb)
    have ge : G'.get? e = none := g2 e (by simp)
    have old : ∀ b o, hp.get? b = some o → G'.get? b = some o := fun b o q => (gk b (Nat.ne_of_lt (Nat.lt_of_lt_of_le (Heap.lt_size q) M.new))).trans (M.keep b o q)
    have ob : ObjOk X.prog X.w (upd H1 d (.xd [(f, v)])) G' d (.xd [(f, v)]) := ⟨_, hns.at (fun o q => (gk d M.dne).trans q), fun y => relO_one rv y⟩
    have J : Inv X pins σ (upd H1 d (.xd [(f, v)])) ⟨G', g, dr, tk', os⟩ := I1.laid (t' := tk') old M.dbig ob
    refine ⟨e, oe, fv, ⟨G', g, dr, tk', os⟩, _, .ref C, some d, rfl, J, fun b o q => ?_, ge, hoe, ⟨hc, hd⟩, hdat, h1, ?_, rfl, I1.bare, raises_own T.cls.xf.exC T.cls.tyC, q1 d (I1.hok.fresh M.dbig)⟩
    · by_cases hb : b = e
      · have q' : G'.get? b = some o := q
        rw [hb, ge] at q'; cases q'
      · exact (gk b hb).symm.trans q
    · rw [upd_ne (Ne.symm M.dne)]
      exact I1.hok.fresh M.new
/-- raise X(e) -/
def tRaiseEr (C : Addr) (f : Str) (W : WX) (ta : TA) : TS := fun _ σ H => tMkEr C f ta σ H fun cls d H' => W cls d σ H'
theorem ps_raiseEr {x : Str} {a : Expr} {ta : TA} {W : WX} {p pos pos2 : Pos} {k : Nat} (hc : X.calm = true) (T : ErTxt X.prog X.K C fI f) (hr : Room k X.A) (hsup : X.mg "super" = none) (gC : X.mg x = some (.ref C)) (tk : Takes X W) (ha : PA X [a] ta) (hg : Gl X x := by rfl) (hdb : (x == ("__debug__" : Str)) = false := by decide)
    (he : starEach (a :: []) X.env = (false, eval a X.env) :: starEach [] X.env := by rfl) (hpl : (backTo pos (starEach [] X.env)).any (·.1) = false := by rfl) :
    PS X (.Raise (some (.Call (.Name x p) [a] [] pos)) none pos2) (tRaiseEr C f W ta) := ps_raise hc tk (pmk_er T hr hsup gC ha hg hdb he hpl)
end
end TC
set_option maxHeartbeats 2000000
/-! Own errors with two fields, whose __init__ says super().__init__(a, b): made, raised. -/
namespace TC
open PySem PySem.W PySem.Calls PyProof.Rows PySem.HandSPX
def erArgs2 (x y : Str) (p1 p2 p3 : Pos) : Arguments := { posonlyargs := [], args := [{ arg := "self", annotation := none, pos := p1 }, { arg := x, annotation := none, pos := p2 }, { arg := y, annotation := none, pos := p3 }], vararg := none, kwonlyargs := [], kw_defaults := [], kwarg := none, defaults := [] }
def erCall2 (x y : Str) (q1 q2 q3 q4 q5 q7 : Pos) : Expr := .Call (.Attribute (.Call (.Name "super" q1) [] [] q2) "__init__" q3) [.Name x q4, .Name y q7] [] q5
def erBody2 (x y f g : Str) (q1 q2 q3 q4 q5 q6 q7 r1 r2 r3 r4 r5 r6 r7 r8 : Pos) : List Stmt := [.Expr (erCall2 x y q1 q2 q3 q4 q5 q7) q6, .Assign [.Attribute (.Name "self" r1) f r2] (.Name x r3) r4, .Assign [.Attribute (.Name "self" r5) g r6] (.Name y r7) r8]
def erScope2 (x y : Str) : Scope := { kind := .function, names := [("self", .local), (x, .local), (y, .local), ("__class__", .free), ("super", .globalImplicit)], isGenerator := false, isCoroutine := false, more := [] }
/-- the dict's two fields -/
def two (f g : Str) (v u : Value) (y : Str) : Option Value := if y = g then some u else if y = f then some v else none
section
variable {prog : Program} {w : World} {A : Around} {R : Result → Shared → Prop} {s : Shared} {K : Frag} {C fI cc : Addr} {mg mb : Str → Option Value}
theorem er_init2 {x y f f2 qual : Str} {p1 p2 p3 q1 q2 q3 q4 q5 q6 q7 r1 r2 r3 r4 r5 r6 r7 r8 : Pos} {a t0 : Addr} {v u : Value} (T : XCls K C fI [f, f2]) (F : XFn K C fI cc qual (erArgs2 x y p1 p2 p3) (erBody2 x y f f2 q1 q2 q3 q4 q5 q6 q7 r1 r2 r3 r4 r5 r6 r7 r8) (erScope2 x y))
    (st : nsIn K cStatics "thirdparty.any" = some none) (hfile : ((prog.main.file : Str) == ("/claim/cut.py" : Str)) = true) (htop : (prog.main.scope.names.lookup ("super" : Str)).isSome = false)
    (X : K.In s.heap) (hlim : s.heap.NoLimit) (G : s.heap.Ns mainGlobals mg) (hsup : mg "super" = none) (B : s.heap.Ns builtinsNs mb) (hbb : mb "super" = bootBuiltins "super") (hx : s.heap.get? a = some (excO C t0)) (hnx : K.lookup a = none) (hroom : A.depth < recursionLimit)
    (hbind : ∀ (kV doc pm : Value) (an : Option Addr) (cdv ct : Value), bindArgs (ksFn "__init__" qual (erArgs2 x y p1 p2 p3) (erBody2 x y f f2 q1 q2 q3 q4 q5 q6 q7 r1 r2 r3 r4 r5 r6 r7 r8) (erScope2 x y) .none kV doc pm an cdv ct cc) ⟨[.ref a, v, u], []⟩ = pure [(("self" : Str), Value.ref a), (x, v), (y, u)])
    (he : ∀ (kV doc pm : Value) (an : Option Addr) (cdv ct : Value) (L : Addr), ∃ pl : Sem Bool, eval (erCall2 x y q1 q2 q3 q4 q5 q7) (callEnv (ksFn "__init__" qual (erArgs2 x y p1 p2 p3) (erBody2 x y f f2 q1 q2 q3 q4 q5 q6 q7 r1 r2 r3 r4 r5 r6 r7 r8) (erScope2 x y) .none kV doc pm an cdv ct cc) L fI) = (do
      let ov ← attributeBase (.Call (.Name "super" q1) [] [] q2) "__init__" (callEnv (ksFn "__init__" qual (erArgs2 x y p1 p2 p3) (erBody2 x y f f2 q1 q2 q3 q4 q5 q6 q7 r1 r2 r3 r4 r5 r6 r7 r8) (erScope2 x y) .none kV doc pm an cdv ct cc) L fI) (eval (.Call (.Name "super" q1) [] [] q2) (callEnv (ksFn "__init__" qual (erArgs2 x y p1 p2 p3) (erBody2 x y f f2 q1 q2 q3 q4 q5 q6 q7 r1 r2 r3 r4 r5 r6 r7 r8) (erScope2 x y) .none kV doc pm an cdv ct cc) L fI))
      standAt q3.atName
      let (f', first) ← holding [ov] (getMethod ov "__init__" pl)
      callWith q5 f' first (backTo q5 (starEach [.Name x q4, .Name y q7] (callEnv (ksFn "__init__" qual (erArgs2 x y p1 p2 p3) (erBody2 x y f f2 q1 q2 q3 q4 q5 q6 q7 r1 r2 r3 r4 r5 r6 r7 r8) (erScope2 x y) .none kV doc pm an cdv ct cc) L fI))) []))
    (hs1 : (erScope2 x y).names.lookup ("super" : Str) = some .globalImplicit) (hs2 : (erScope2 x y).names.lookup ("__class__" : Str) = some .free)
    (hxl : (erScope2 x y).names.lookup x = some .local) (hxs : ((x == ("self" : Str)) = false)) (hxd : (x == ("__debug__" : Str)) = false) (hyl : (erScope2 x y).names.lookup y = some .local) (hys : ((y == ("self" : Str)) = false)) (hyd : (y == ("__debug__" : Str)) = false) (hyx : (x == y) = false)
    (hq : ∀ h' tk dx t1, (∀ b o, b ≠ a → s.heap.get? b = some o → h'.get? b = some o) → h'.get? a = some { cls := .ref C, dict := some dx, data := .fields #[.ref t1, .none, .none, .none, .bool false, .none] } → s.heap.objs.size ≤ dx → dx ≠ a →
      h'.Ns1 dx (two f f2 v u) → R (.ok (.ret .none)) { s with heap := h', toks := tk }) :
    codeAny (model prog w) A (.call (.ref fI) ⟨[.ref a, v, u], []⟩) R s := by
  obtain ⟨od, an, kV, doc, pm, ct, osl, cda, ccl, cdd, vs, ccs, tf, ho, hcode, hvs, hcd⟩ := F.ex
  obtain ⟨cl, cld, csl, hcell⟩ := F.cell
  obtain ⟨nm, q, N, bs, bm, sn, sub, ab, col, dd, k0, k1, k2, k3, k5, hC, hbm⟩ := T.cls
  have hcl : clsIn K C = some { name := nm, bases := bs, mro := .ref C :: bm, ns := N, qualname := q, hasDict := true, slotNames := sn, subclasses := sub, abstract := ab, collection := col, hasDel := false } := by unfold clsIn; rw [hC]
  have hne : a ≠ C := by
    rintro rfl
    have e := X _ _ hC
    rw [hx] at e
    have e2 := congrArg Obj.data (Option.some.inj e)
    cases e2
  refine ks_codeAny_call_defAt (fd := ksFn "__init__" qual (erArgs2 x y p1 p2 p3) (erBody2 x y f f2 q1 q2 q3 q4 q5 q6 q7 r1 r2 r3 r4 r5 r6 r7 r8) (erScope2 x y) .none kV doc pm an (.ref cda) ct cc) (body := erBody2 x y f f2 q1 q2 q3 q4 q5 q6 q7 r1 r2 r3 r4 r5 r6 r7 r8) (binds := [("self", .ref a), (x, v), (y, u)])
    hroom (X _ _ ho) rfl hlim (codeRec_of X hcd) rfl (BindsTo.of_eq (hbind _ _ _ _ _ _)) (by
      intro z0 hy
      have hy : z0 ∈ [(("self" : Str), NameKind.local), (x, .local), (y, .local), ("__class__", .free), ("super", .globalImplicit)] := hy
      simp only [List.mem_cons, List.not_mem_nil, or_false] at hy
      rcases hy with rfl | rfl | rfl | rfl | rfl <;> intro z <;> cases z) (by
      intro z0 hy
      have hy : z0 ∈ [(("self" : Str), Value.ref a), (x, v), (y, u)] := hy
      simp only [List.mem_cons, List.not_mem_nil, or_false] at hy
      rcases hy with rfl | rfl | rfl
      · rfl
      · exact hxl
      · exact hyl) (fun h₁ hns hk₁ => ?_)
  have bsym : ∀ {a b : Str}, (a == b) = false → (b == a) = false := fun {a b} h => by
    rw [Bool.eq_false_iff] at h ⊢
    intro z
    exact h (by rw [beq_iff_eq] at z ⊢; exact z.symm)
  have v1 : ([(("self" : Str), Value.ref a), (x, v), (y, u)].reverse.lookup ("self" : Str)) = some (.ref a) := by
    show (match ("self" : Str) == y with | true => some u | false => (match ("self" : Str) == x with | true => some v | false => (match ("self" : Str) == ("self" : Str) with | true => some (Value.ref a) | false => none))) = some (.ref a)
    rw [bsym hys, bsym hxs]
    rfl
  have v2 : ([(("self" : Str), Value.ref a), (x, v), (y, u)].reverse.lookup x) = some v := by
    show (match x == y with | true => some u | false => (match x == x with | true => some v | false => (match x == ("self" : Str) with | true => some (Value.ref a) | false => none))) = some v
    rw [hyx, beq_self_eq_true]
  have v3 : ([(("self" : Str), Value.ref a), (x, v), (y, u)].reverse.lookup y) = some u := by
    show (match y == y with | true => some u | false => _) = some u
    rw [beq_self_eq_true]
  have hL : s.heap.objs.size ≠ a := Nat.ne_of_gt (Heap.lt_size hx)
  have X1 : K.In h₁ := X.keeps hk₁
  have hx1 := hk₁ _ _ hx
  obtain ⟨hh, g, d, t, os⟩ := s
  have hD : hh.get? C = some (excClassObj nm q C N bs bm true sn sub ab col dd k0 k1 k2 k3 k5 "ValueError.__new__") := X _ _ hC
  have hD1 := hk₁ _ _ hD
  have n1 := hns
  show PySem.wpAt _ _ _ (execs (.Expr (erCall2 x y q1 q2 q3 q4 q5 q7) q6 :: [.Assign [.Attribute (.Name "self" r1) f r2] (.Name x r3) r4, .Assign [.Attribute (.Name "self" r5) f2 r6] (.Name y r7) r8]) _) _ _ _
  obtain ⟨pl, heq⟩ := he kV doc pm an (.ref cda) ct hh.objs.size
  refine ks_wpAt_execs_cons (st := .Expr (erCall2 x y q1 q2 q3 q4 q5 q7) q6) (ks_wpAt_Expr_any (ks_wpAt_MethodCall (pl := pl) ?_ (he := heq)) rfl rfl)
  refine ks_wpAt_super_base (ar := { arg := "self", annotation := none, pos := p1 }) hs1 hs2 (by decide) rfl (hk₁ _ _ (X _ _ ho)) rfl rfl rfl (X1 _ _ hcode) rfl hvs hfile htop ?_
  refine ks_loadName_global rfl hs1 (loadGlobal_builtin (G.keeps hk₁) hsup (B.keeps hk₁) (hbb.trans (by decide +kernel)) ⟨rfl, ?_⟩)
  refine wpAny_loadName_free rfl hs2 rfl ⟨_, X1 _ _ hcell, rfl⟩ ?_
  refine wpAny_loadName_local rfl rfl n1 v1 ?_
  refine ks_wpAny_isType_cls hD1 rfl ⟨rfl, ?_⟩
  refine ks_wpAny_call_super hD1 rfl hx1 rfl (fun c e => by cases e) (looks_mroIn X1 T.mro) (fun h₂ e2 kk2 => ?_)
  have k2 : ∀ b o, hh.get? b = some o → h₂.get? b = some o := fun b o e => kk2 b o (hk₁ b o e)
  have X2 : K.In h₂ := X1.keeps kk2
  have hsup2 : alongIn K "__init__" (((Value.ref C :: bm).dropWhile (· != .ref C)).drop 1) = some (some (.builtin "ValueError.__init__")) := by
    have z := T.sup
    unfold ks_superIn at z
    rw [hcl] at z
    exact z
  refine kxs_getMethod kxs_ValueError e2 (looks_opaque X2 st) (l₀ := .ref C :: bm) (fun A Q E s k q => wpAny_bind ((looks_clsIn X2 hcl) A _ E s k (wpAny_pure q))) rfl X2 hsup2 ?_ hne (by decide) ?_
  · have J : InstAt h₂ a (excO C t0) C none := ⟨kk2 _ _ hx1, rfl, rfl, trivial⟩
    exact J.type.andThen (looks_subIn X2 T.subV)
  have a2 : h₂.get? a = some (excO C t0) := kk2 _ _ hx1
  have p2' : ∀ b o, h₂.get? b = some o → (h₂.push (kxs_mw "ValueError.__init__" a)).get? b = some o := fun b o e => Heap.get?_push_of_some _ e
  have hu : (h₂.push (kxs_mw "ValueError.__init__" a)).get? h₂.objs.size = some (kxs_mw "ValueError.__init__" a) := Heap.get?_push_at rfl rfl
  have n3 : (h₂.push (kxs_mw "ValueError.__init__" a)).Ns hh.objs.size (fun y' => [(("self" : Str), Value.ref a), (x, v), (y, u)].reverse.lookup y') := (n1.keeps kk2).keeps p2'
  refine kxs_callWith (i := "ValueError.__init__") (x := a) rfl (evalArgs_plain (Calls.spliced_cons (ldE n3 v2 rfl hxl hxd (Calls.spliced_cons (ldE n3 v3 rfl hyl hyd (Calls.spliced_nil ⟨hu, ?_⟩))))))
  refine er_bw (p2' _ _ (kk2 _ _ hD1)) (p2' _ _ a2) hu (by rw [sizeLine_eq]; exact (by decide : 2 ≤ 16777216)) (fun h₄ t1 k4 a4 => ?_)
  -- self.f = value
  have k3 : ∀ b o, b ≠ a → h₁.get? b = some o → h₄.get? b = some o := fun b o hb e => k4 b o hb (p2' b o (kk2 b o e))
  have X4 : K.In h₄ := fun b o e => k3 b o (fun z => by rw [z, hnx] at e; cases e) (X1 b o e)
  have n4 : h₄.Ns hh.objs.size (fun y' => [(("self" : Str), Value.ref a), (x, v), (y, u)].reverse.lookup y') := by
    obtain ⟨o, es, ep, e1, e2, e3⟩ := n1
    exact ⟨o, es, ep, k3 _ _ hL e1, e2, e3⟩
  show PySem.wpAt _ _ _ (execs [.Assign [.Attribute (.Name "self" r1) f r2] (.Name x r3) r4, .Assign [.Attribute (.Name "self" r5) f2 r6] (.Name y r7) r8] _) _ _ _
  refine wpAt_of_wpAny (wpAny_execs_cons (plainObj_wpAny_Assign_Attribute (ldE n4 v2 rfl hxl hxd (ldE n4 v1 rfl rfl (by decide) ?_))))
  refine set_plain X4 (ox := excO C t1) (od := none) ⟨a4, rfl, rfl, trivial⟩ T.sa ?_
  refine exc_osa X4 a4 hcl (show refsVE (.ref C :: bm) = true from hbm) rfl (T.noat f (List.mem_cons_self ..)) (fun h₅ tk₅ dx k5 dn dne a5 n5 => ?_)
  have hLx : hh.objs.size < dx := Nat.lt_of_lt_of_le n4.lt dn
  have n6 : h₅.Ns hh.objs.size (fun y' => [(("self" : Str), Value.ref a), (x, v), (y, u)].reverse.lookup y') := by
    obtain ⟨o, es, ep, e1, e2, e3⟩ := n4
    exact ⟨o, es, ep, k5 _ _ hL e1, e2, e3⟩
  have X5 : K.In h₅ := fun b o e => k5 b o (fun z => by rw [z, hnx] at e; cases e) (X4 b o e)
  refine wpAny_execs_cons (plainObj_wpAny_Assign_Attribute (ldE n6 v3 rfl hyl hyd (ldE n6 v1 rfl rfl (by decide) ?_)))
  obtain ⟨oD, esD, epD, hoD, hdD, _⟩ := n5.count (ns := [f]) (fun y' hy' => by
    by_cases z : y' = f
    · rw [z]; exact List.mem_cons_self ..
    · rw [if_neg z] at hy'; exact absurd rfl hy')
  refine set_plain X5 (ox := { cls := .ref C, dict := some dx, data := .fields #[.ref t1, .none, .none, .none, .bool false, .none] }) (od := some oD) ⟨a5, rfl, rfl, hoD⟩ T.sa ?_
  refine OEX.osa_old X5 a5 n5 (nl := [f]) (fun y' hy' => by
    by_cases z : y' = f
    · rw [z]; exact List.mem_cons_self ..
    · rw [if_neg z] at hy'; exact absurd rfl hy') (by show (1 : Nat) ≤ 1000; decide) hcl (show refsVE (.ref C :: bm) = true from hbm) rfl (T.noat f2 (List.mem_cons_of_mem _ (List.mem_cons_self ..))) (fun h₆ tk₆ k6 n7 => ?_)
  refine wpAny_execs_nil (hq h₆ tk₆ dx t1 (fun b o hb e => k6 b o (fun z => ?_) (k5 b o hb (k3 b o hb (hk₁ b o e)))) (k6 _ _ (Ne.symm dne) a5) (Nat.le_of_lt hLx) dne n7)
  have := Heap.lt_size e
  rw [z] at this
  exact absurd (Nat.lt_trans this hLx) (Nat.lt_irrefl _)

/-- a made error -/
structure ErMade2 (h h' : Heap) (e C d : Addr) (f f2 : Str) (v u : Value) : Prop where
  keep : ∀ b o, h.get? b = some o → h'.get? b = some o
  new : h.objs.size ≤ e
  obj : ∃ oe vs, h'.get? e = some oe ∧ oe.cls = .ref C ∧ oe.dict = some d ∧ oe.data = .fields vs ∧ vs[1]? = some .none
  dbig : h.objs.size ≤ d
  dne : d ≠ e
  ns : h'.Ns1 d (two f f2 v u)
/-- all that is known of such a class, at C, for any world -/
structure ErTxt2 (prog : Program) (K : Frag) (C fI : Addr) (f f2 : Str) : Prop where
  cls : XCls K C fI [f, f2]
  run : ∀ (w : World) (A : Around) (R : Result → Shared → Prop) (s : Shared) (mg mb : Str → Option Value) (a t0 : Addr) (v u : Value), K.In s.heap → s.heap.NoLimit → s.heap.Ns mainGlobals mg → mg "super" = none → s.heap.Ns builtinsNs mb → mb "super" = bootBuiltins "super" →
    s.heap.get? a = some (excO C t0) → K.lookup a = none → A.depth < recursionLimit →
    (∀ h' tk dx t1, (∀ b o, b ≠ a → s.heap.get? b = some o → h'.get? b = some o) → h'.get? a = some { cls := .ref C, dict := some dx, data := .fields #[.ref t1, .none, .none, .none, .bool false, .none] } → s.heap.objs.size ≤ dx → dx ≠ a →
      h'.Ns1 dx (two f f2 v u) → R (.ok (.ret .none)) { s with heap := h', toks := tk }) → codeAny (model prog w) A (.call (.ref fI) ⟨[.ref a, v, u], []⟩) R s
theorem er_made2 {f f2 : Str} {v u : Value} (T : ErTxt2 prog K C fI f f2) (X : K.In s.heap) (hlim : s.heap.NoLimit) (G : s.heap.Ns mainGlobals mg) (hsup : mg "super" = none) (B : s.heap.Ns builtinsNs mb) (hbb : mb "super" = bootBuiltins "super") (hroom : A.depth + 1 < recursionLimit)
    (hq : ∀ h' tk e d, ErMade2 s.heap h' e C d f f2 v u → R (.ok (.ret (.ref e))) { s with heap := h', toks := tk }) : codeAny (model prog w) A (.call (.ref C) ⟨[v, u], []⟩) R s := by
  obtain ⟨nm, q, N, bs, bm, sn, sub, ab, col, dd, k0, k1, k2, k3, k5, hC, hbm⟩ := T.cls.cls
  obtain ⟨hp, g, dr, tk, os⟩ := s
  have up : ∀ b o, hp.get? b = some o → ((hp.push (kdv_tup [v, u])).push (excO C hp.objs.size)).get? b = some o := fun b o e => Heap.get?_push_of_some _ (Heap.get?_push_of_some _ e)
  have at_ : ((hp.push (kdv_tup [v, u])).push (excO C hp.objs.size)).get? (hp.objs.size + 1) = some (excO C hp.objs.size) := by heap_get
  have out : K.lookup (hp.objs.size + 1) = none := by
    cases e : K.lookup (hp.objs.size + 1) with
    | none => rfl
    | some o => exact absurd (Nat.lt_of_succ_lt (Heap.lt_size (show hp.get? (hp.objs.size + 1) = some o from X _ _ e))) (Nat.lt_irrefl _)
  refine call_own F.excBase_ValueError (fun Y => refsVE_contains Y bm hbm) (X _ _ hC) (looks_findIn X T.cls.ini) (fun self => bind_fn X self T.cls.tyF) (by rw [sizeLine_eq]; exact (by decide : 2 ≤ 16777216)) ?_
  refine T.run w _ _ ⟨(hp.push (kdv_tup [v, u])).push (excO C hp.objs.size), g, dr, tk, os⟩ mg mb _ _ v u (X.keeps up) (hlim.keeps up) (G.keeps up) hsup (B.keeps up) hbb at_ out (show A.depth + 1 < recursionLimit from hroom) (fun h' tk' dx t1 k' a' dn dne hns => ?_)
  have old : ∀ b o, hp.get? b = some o → h'.get? b = some o := fun b o e => k' b o (Nat.ne_of_lt (Nat.lt_succ_of_lt (Heap.lt_size e))) (up b o e)
  have z : hp.objs.size + 1 + 1 ≤ dx := by
    first
      | exact dn
      | (simpa only [Heap.size_push] using dn)
  exact ⟨rfl, hq h' tk' (hp.objs.size + 1) dx ⟨old, Nat.le_succ _, ⟨_, _, a', rfl, rfl, rfl, rfl⟩, Nat.le_trans (Nat.le_trans (Nat.le_succ _) (Nat.le_succ _)) z, dne, hns⟩⟩
end
end TC
namespace TC
open PySem PySem.Spec PyProof.Rows L2
theorem relO_two {f f2 : Str} {v u : V} {v' u' : Value} (hne : (f == f2) = false) (r : RelV v v') (r2 : RelV u u') (y : Str) : RelO (List.lookup y [(f, v), (f2, u)]) (two f f2 v' u' y) := by
  unfold two
  by_cases h2 : y = f2
  · subst h2
    rw [if_pos rfl]
    have q0 : (y == f) = false := by
      rw [Bool.eq_false_iff] at hne ⊢
      intro z
      exact hne (by rw [beq_iff_eq] at z ⊢; exact z.symm)
    have q : List.lookup y [(f, v), (y, u)] = some u := by simp [List.lookup, q0]
    rw [q]
    exact r2
  · rw [if_neg h2]
    have q2 : (y == f2) = false := by simpa using h2
    by_cases h : y = f
    · subst h
      rw [if_pos rfl]
      have q : List.lookup y [(y, v), (f2, u)] = some v := by simp [List.lookup]
      rw [q]
      exact r
    · rw [if_neg h]
      have q0 : (y == f) = false := by simpa using h
      have q : List.lookup y [(f, v), (f2, u)] = none := by simp [List.lookup, q0, q2]
      rw [q]
      trivial
section
variable {X : Cx} {C fI : Addr} {f f2 : Str}
/-- X(e): the class, the new dict with the one field -/
def tMkEr2 (C : Addr) (f f2 : Str) (ta : TA) : L2.St → Hp → XK → Prop := fun σ H Q => ta σ H fun vs H1 => ∃ v u, vs = [v, u] ∧ ∀ d, H1 d = none → Q (.ref C) (some d) (upd H1 d (.xd [(f, v), (f2, u)]))
theorem pmk_er2 {x : Str} {a b2 : Expr} {ta : TA} {p pos : Pos} {k : Nat} (T : ErTxt2 X.prog X.K C fI f f2) (hne : (f == f2) = false) (hr : Room k X.A) (hsup : X.mg "super" = none) (gC : X.mg x = some (.ref C)) (ha : PA X [a, b2] ta) (hg : Gl X x := by rfl) (hdb : (x == ("__debug__" : Str)) = false := by decide)
    (he : starEach [a, b2] X.env = (false, eval a X.env) :: starEach [b2] X.env := by rfl) (hpl : (backTo pos (starEach [b2] X.env)).any (·.1) = false := by rfl) :
    PMk X (.Call (.Name x p) [a, b2] [] pos) (tMkEr2 C f f2 ta) := by
  intro pins s σ H Q I h
  refine wpAny_Call_Name_kw (ld_glob I hg gC ?_ hdb)
  refine PySem.W.callWith_K (h₀ := X.base) I.ok.mod.kin T.cls.kC (thn (ha.run pos pins s σ H _ I h) fun us s1 hh => ?_) he hpl
  obtain ⟨vs, H1, I1, r1, v, u, ev, q1⟩ := hh
  subst ev
  refine ⟨I1.kIn, ?_⟩
  cases r1 with
  | cons rv rn =>
    rename_i v' us1
    cases rn with
    | cons ru rn =>
    rename_i u' us'
    cases rn
    show wpAny _ _ (call (.ref C) [v', u']) _ _ _
    have hlim := I1.nolimit
    have hG := I1.ok.mod.glob.keeps I1.bk
    obtain ⟨mb, hB, hbb⟩ := I1.ok.mod.blt
    have hB' := hB.keeps I1.bk
    obtain ⟨hp, g, dr, tk, os⟩ := s1
    refine wpAny_call (er_made2 T I1.kIn hlim hG hsup hB' (hbb _ (by decide)) (by have := hr.dp; omega) fun h' tk' e d M => ?_)
    show MkP X pins σ Q (.ref e) ⟨h', g, dr, tk', os⟩
    obtain ⟨oe, fv, hoe, hc, hd, hdat, h1⟩ := M.obj
    have hns := M.ns
    obtain ⟨G', g1, g2⟩ := restrict h' fun b => decide (b ≠ e)
    have gk : ∀ b, b ≠ e → G'.get? b = h'.get? b := fun b hb => g1 b (decide_eq_true hb)
    have ge : G'.get? e = none := g2 e (by simp)
    have old : ∀ b o, hp.get? b = some o → G'.get? b = some o := fun b o q => (gk b (Nat.ne_of_lt (Nat.lt_of_lt_of_le (Heap.lt_size q) M.new))).trans (M.keep b o q)
    have ob : ObjOk X.prog X.w (upd H1 d (.xd [(f, v), (f2, u)])) G' d (.xd [(f, v), (f2, u)]) := ⟨_, hns.at (fun o q => (gk d M.dne).trans q), fun y => relO_two hne rv ru y⟩
    have J : Inv X pins σ (upd H1 d (.xd [(f, v), (f2, u)])) ⟨G', g, dr, tk', os⟩ := I1.laid (t' := tk') old M.dbig ob
    refine ⟨e, oe, fv, ⟨G', g, dr, tk', os⟩, _, .ref C, some d, rfl, J, fun b o q => ?_, ge, hoe, ⟨hc, hd⟩, hdat, h1, ?_, rfl, I1.bare, raises_own T.cls.xf.exC T.cls.tyC, q1 d (I1.hok.fresh M.dbig)⟩
    · by_cases hb : b = e
      · have q' : G'.get? b = some o := q
        rw [hb, ge] at q'; cases q'
      · exact (gk b hb).symm.trans q
    · rw [upd_ne (Ne.symm M.dne)]
      exact I1.hok.fresh M.new
/-- raise X(e) -/
def tRaiseEr2 (C : Addr) (f f2 : Str) (W : WX) (ta : TA) : TS := fun _ σ H => tMkEr2 C f f2 ta σ H fun cls d H' => W cls d σ H'
theorem ps_raiseEr2 {x : Str} {a b2 : Expr} {ta : TA} {W : WX} {p pos pos2 : Pos} {k : Nat} (hc : X.calm = true) (T : ErTxt2 X.prog X.K C fI f f2) (hne : (f == f2) = false) (hr : Room k X.A) (hsup : X.mg "super" = none) (gC : X.mg x = some (.ref C)) (tk : Takes X W) (ha : PA X [a, b2] ta) (hg : Gl X x := by rfl) (hdb : (x == ("__debug__" : Str)) = false := by decide)
    (he : starEach [a, b2] X.env = (false, eval a X.env) :: starEach [b2] X.env := by rfl) (hpl : (backTo pos (starEach [b2] X.env)).any (·.1) = false := by rfl) :
    PS X (.Raise (some (.Call (.Name x p) [a, b2] [] pos)) none pos2) (tRaiseEr2 C f f2 W ta) := ps_raise hc tk (pmk_er2 T hne hr hsup gC ha hg hdb he hpl)
end
end TC
set_option maxHeartbeats 2000000
/-! try with several clauses, each with a name or without. -/
namespace TC
open PySem PySem.Spec PyProof.Rows L2
/-- a clause: the class, the slot of its name (if any), the reading of its suite -/
structure Clause where
  cls : Value
  slot : Option Nat
  suite : Addr → Value → Option Addr → TS
/-- behind a suite: its name is gone -/
def goneEnds (D : Ends) : Option Nat → Ends
  | none => D
  | some i => { nx := fun σ H => D.nx (σ.set i none) H, rt := D.rt, bk := fun σ H => D.bk (σ.set i none) H, ct := fun σ H => D.ct (σ.set i none) H }
def nameSet (σ : L2.St) (a : Addr) : Option Nat → L2.St
  | none => σ
  | some i => σ.set i (some (.ref a))
/-- the wish at the clauses, one after another -/
def wClauses (K : PySem.W.Frag) (Wout : WX) (D : Ends) : List Clause → WX
  | [] => Wout
  | c :: r => fun cls d σ H => ∃ b, PySem.W.exmOne K cls c.cls = some b ∧ (b = true → ∀ a, H a = none → c.suite a cls d (goneEnds D c.slot) (nameSet σ a c.slot) H) ∧ (b = false → wClauses K Wout D r cls d σ H)
inductive Clauses (X : Cx) : List ExceptHandler → List Clause → Prop
  | nil : Clauses X [] []
  | bare {x : Str} {c : Value} {ts : Addr → Value → Option Addr → TS} {b₀ : Stmt} {suite : List Stmt} {p1 p2 : Pos} {hds : List ExceptHandler} {l : List Clause} (hc : Names X x c)
      (hsu : ∀ (a : Addr) (oe : Obj) (cls : Value) (d : Option Addr) (pn : List (Addr × Obj)), Zc cls d oe → (∃ vs, oe.data = .fields vs) → PSs (X.suite a ((a, oe) :: pn)) (b₀ :: suite) (ts a cls d)) (r : Clauses X hds l) :
      Clauses X (.ExceptHandler (some (.Name x p1)) none (b₀ :: suite) p2 :: hds) (⟨c, none, ts⟩ :: l)
  | named {x n : Str} {c : Value} {i : Nat} {ts : Addr → Value → Option Addr → TS} {b₀ : Stmt} {suite : List Stmt} {p1 p2 : Pos} {hds : List ExceptHandler} {l : List Clause} (hc : Names X x c) (hi : X.N[i]? = some n) (hln : X.env.kindOf n = some .local)
      (hsu : ∀ (a : Addr) (oe : Obj) (cls : Value) (d : Option Addr) (pn : List (Addr × Obj)), Zc cls d oe → (∃ vs, oe.data = .fields vs) → PSs (X.suite a ((a, oe) :: pn)) (b₀ :: suite) (ts a cls d)) (r : Clauses X hds l) :
      Clauses X (.ExceptHandler (some (.Name x p1)) (some n) (b₀ :: suite) p2 :: hds) (⟨c, some i, ts⟩ :: l)
section
variable {X : Cx} {body : List Stmt} {h₀ : ExceptHandler} {hds : List ExceptHandler} {l : List Clause} {pos : Pos} {tb : WX → TS} {Wout : WX}
theorem ps_try_clauses (hs : X.stack = X.env :: X.outer) (hf : X.env.frame = some X.env.locals) (hN : X.N.Nodup) (tk : Takes X Wout)
    (hb : ∀ (W : WX) (pn : List (Addr × Obj)) (xe : Value → Shared → Prop), Takes (X.tr pn xe) W → PassesOwn (model X.prog X.w) X.A X.env xe → PSs (X.tr pn xe) body (tb W)) (hh : Clauses X (h₀ :: hds) l) :
    PS X (.Try body (h₀ :: hds) [] [] pos) (fun D σ H => tb (wClauses X.K Wout D l) D σ H) := by
  constructor
  intro pins s σ H D I h
  have ok := I.ok
  have fr : X.A.frames = some (X.env :: X.outer) := ok.frames.trans (by rw [hs])
  refine wpAny_Try_except (wpAny_mono ((hb (wClauses X.K Wout D l) (X.pn ++ pins) (fun e s₁ => wpAny (model X.prog X.w) X.A (noteFrame e X.env) (fun _ s₂ => wpAny (model X.prog X.w) X.A (setFlight e none) (fun _ s₃ =>
    wpAny (model X.prog X.w) X.A (handleBy e X.env (h₀ :: hds)) (SP X pins D) X.xe s₃) X.xe s₂) X.xe s₁) (fun u s' xx => ?_) PassesOwn.looking).run [] s σ H D (I.toTry _) h) (fun fl s1 q => ?_) fun _ _ z => z)
  · obtain ⟨a, B, sI, pins0, σ1, H1, cls, d, rfl, J0, nb, up, sky, na, os, ag, wish⟩ := xx
    have J : Inv X pins σ1 H1 sI := J0.ofTry ok
    have sky1 : Sky B (X.env :: X.outer) a (Zc cls d) X.env.locals s'.heap := hs ▸ sky
    refine Sky.land Zc.steady fr hf sky1 fun h3 fl3 up3 => ?_
    have J3 : Inv X pins σ1 H1 { s' with heap := h3 } := J.landed nb fl3.1 (up.trans up3) os ag
    obtain ⟨oe3, vs3, he3, hz3, hd3⟩ := fl3.there
    have out : a ∉ frs (X.env :: X.outer) := fun hm => by
      obtain ⟨_, o', e', hnf⟩ := fl3.2.2.1.mem hm
      rw [he3] at e'
      cases e'
      exact hnf _ hd3
    have nL : a ≠ X.env.locals := fun z => out (List.mem_filterMap.mpr ⟨X.env, List.mem_cons_self, by rw [hf, z]⟩)
    have nF : a ∉ X.fs := fun hm => by
      obtain ⟨e, he, q⟩ := List.mem_filterMap.mp hm
      exact out (List.mem_filterMap.mpr ⟨e, List.mem_cons_of_mem _ he, q⟩)
    have S3 := J3.suite he3 hd3 na nL nF
    have LT : PySem.W.Looks (model X.prog X.w) h3 (typeOf (.ref a)) cls := fun A Q E s k q => wpAny_typeOf_ref (k _ _ he3) (by rw [hz3.1]; exact q)
    have tested : ∀ {x : Str} {c : Value} {np : Pos}, Names X x c → ∀ {Q : Value → Shared → Prop} {E : Value → Shared → Prop}, Q c { s' with heap := h3 } → wpAny (model X.prog X.w) (X.A.mark (some (.ref a))) (eval (.Name x np) X.env) Q E { s' with heap := h3 } := fun {x c np} hc {Q E} q => by
      obtain ⟨g1, g2, g3 | ⟨g3, g4, g5⟩⟩ := hc
      · exact ld_glob (X := X.suite a ((a, oe3) :: (X.pn ++ pins))) S3 g1 g3 q g2
      · exact ld_blt (X := X.suite a ((a, oe3) :: (X.pn ++ pins))) S3 g1 g3 g4 q g5 g2
    -- the flight is gone: the suite's state
    have enter : ∀ {P : Heap → Prop}, (∀ h4 oe4, Zc cls d oe4 → (∃ vs, oe4.data = .fields vs) → Inv (X.suite a ((a, oe4) :: (X.pn ++ pins))) [] σ1 H1 { s' with heap := h4 } → P h4) → ∀ h4, HandSPX.FlyingZ B (X.env :: X.outer) a (Zc cls d) h4 → h3.UpToSlots h4 → P h4 := fun {P} k h4 fl4 up4 => by
      have J4 : Inv X pins σ1 H1 { s' with heap := h4 } := J.landed nb fl4.1 ((up.trans up3).trans up4) os ag
      obtain ⟨oe4, vs4, he4, hz4, hd4⟩ := fl4.there
      exact k h4 oe4 hz4 ⟨_, hd4⟩ (J4.suite he4 hd4 na nL nF)
    have go : ∀ {hs' : List ExceptHandler} {l' : List Clause}, Clauses X hs' l' → wClauses X.K Wout D l' cls d σ1 H1 → wpAny (model X.prog X.w) X.A (handleBy (.ref a) X.env hs') (SP X pins D) X.xe { s' with heap := h3 } := by
      intro hs' l' hk
      induction hk with
      | nil =>
        intro w
        obtain ⟨k1, k2, k3, oe, vs, T, oT, ts', he, hz, hd, h1, hr⟩ := id fl3
        have last : wpAny (model X.prog X.w) X.A (setFlight (.ref a) X.env.frame) (fun _ s4 => wpAny (model X.prog X.w) X.A (throw (.ref a) : Sem Flow) (SP X pins D) X.xe s4) X.xe { s' with heap := h3 } := by
          rw [hf]
          exact HandSPX.setFlight_upZ fl3 fun h4 hh4 up4 => wpAny_throw (tk _ _ ⟨a, B, sI, pins, σ1, H1, cls, d, rfl, J, nb, (up.trans up3).trans up4, .inr (.inr (hs ▸ hh4)), na, os, ag, w⟩)
        refine wpAny_handleBy_nil ?_
        unfold PySem.passOn
        refine wpAny_bind (wpAny_field he hd h1 ?_)
        rw [if_neg (show ¬ ((Value.ref T == Value.none) = true) from by simp)]
        first
          | exact wpAny_bind (wpAny_pure (wpAny_bind last))
          | exact wpAny_bind last
      | @bare x c ts b₀ suite p1 p2 hds2 l2 hc hsu r ih =>
        intro w
        obtain ⟨b, e, yes, no⟩ := w
        refine wpAny_handleBy_cons (codeAny_handlers_test (tested hc ((PySem.W.exm_one (M := model X.prog X.w) J3.kIn LT e).here ?_))) (by intro q; cases q)
        cases b with
        | false => exact ih (no rfl)
        | true =>
          refine codeAny_handlers_suite (HandSPX.lands_againZ fl3 (enter fun h4 oe4 hz4 hd4 S4 => ?_))
          refine wpAny_mono ((hsu a oe4 cls d (X.pn ++ pins) hz4 hd4).run [] _ _ H1 _ S4 (yes rfl a na)) (fun fl s6 q => ?_) fun _ _ z => False.elim z
          cases fl with
          | ret u =>
            obtain ⟨v6, σ6, H6, S6, r6, q6⟩ := q
            exact ⟨_, _, _, S6.unsuite ok, r6, q6⟩
          | next => obtain ⟨σ6, H6, S6, q6⟩ := q; exact ⟨_, _, S6.unsuite ok, q6⟩
          | brk => obtain ⟨σ6, H6, S6, q6⟩ := q; exact ⟨_, _, S6.unsuite ok, q6⟩
          | cont => obtain ⟨σ6, H6, S6, q6⟩ := q; exact ⟨_, _, S6.unsuite ok, q6⟩
      | @named x n c i ts b₀ suite p1 p2 hds2 l2 hc hi hln hsu r ih =>
        intro w
        obtain ⟨b, e, yes, no⟩ := w
        refine wpAny_handleBy_cons (codeAny_handlers_test (tested hc ((PySem.W.exm_one (M := model X.prog X.w) J3.kIn LT e).here ?_))) (by intro q; cases q)
        cases b with
        | false => exact ih (no rfl)
        | true =>
          refine codeAny_handlers_suite_as (HandSPX.lands_againZ fl3 (enter fun h4 oe4 hz4 hd4 S4 => ?_))
          refine store_ok (X := X.suite a ((a, oe4) :: (X.pn ++ pins))) (v := .ref a) S4 hN hi (.inl hln) rfl (fun s5 S5 => ?_) (.inr hln)
          refine wpAny_mono ((hsu a oe4 cls d (X.pn ++ pins) hz4 hd4).run [] s5 _ H1 _ S5 (yes rfl a na)) (fun fl s6 q => ?_) fun _ _ z => False.elim z
          have fin : ∀ {σ6 : L2.St} {H6 : Hp} {Q : Shared → Prop}, Inv (X.suite a ((a, oe4) :: (X.pn ++ pins))) [] σ6 H6 s6 → (∀ s7, Inv X pins (σ6.set i none) H6 s7 → Q s7) →
              wpAny (model X.prog X.w) X.A (do bindName X.env n .none; unbindBehindTheSuite X.env n p2) (fun _ s7 => Q s7) X.xe s6 := fun {σ6 H6 Q} S6 hq => gone_ok (S6.unsuite ok) hN hi hln hq
          cases fl with
          | ret u =>
            obtain ⟨v6, σ6, H6, S6, r6, q6⟩ := q
            exact fin S6 fun s7 J7 => ⟨_, _, _, J7, r6, q6⟩
          | next => obtain ⟨σ6, H6, S6, q6⟩ := q; exact fin S6 fun s7 J7 => ⟨_, _, J7, q6⟩
          | brk => obtain ⟨σ6, H6, S6, q6⟩ := q; exact fin S6 fun s7 J7 => ⟨_, _, J7, q6⟩
          | cont => obtain ⟨σ6, H6, S6, q6⟩ := q; exact fin S6 fun s7 J7 => ⟨_, _, J7, q6⟩
    exact go hh wish
  · cases fl with
    | ret u =>
      obtain ⟨v, σ', H', J', r, q⟩ := q
      exact ⟨v, σ', H', J'.ofTry ok, r, q⟩
    | next => obtain ⟨σ', H', J', q⟩ := q; exact wpAny_execs_nil ⟨σ', H', J'.ofTry ok, q⟩
    | brk => obtain ⟨σ', H', J', q⟩ := q; exact ⟨σ', H', J'.ofTry ok, q⟩
    | cont => obtain ⟨σ', H', J', q⟩ := q; exact ⟨σ', H', J'.ofTry ok, q⟩
end
end TC
set_option maxHeartbeats 2000000
/-! Defs whose promise knows that no repr is under way; repr of data. -/
namespace TC
open PySem PySem.Spec PyProof.Rows L2
/-- a def's promise where no guard stands around -/
structure FnG (P : Program) (w : World) (K : PySem.W.Frag) (mg : Str → Option Value) (base : Heap) (CX : CXT) (k : Nat) (f : Addr) (fd : FuncData) (ps : List Str) (sp : Sp) : Prop where
  len : ∀ vs H Q E, sp vs H Q E → vs.length = ps.length
  run : ∀ (A : Around) (outer : List Env) (s : Shared) (H : Hp) (args : Args) (us : List Value) (vs : List V) (Q : VK) (E : XK), Room k A → A.guards = some [] → Env0 P w K mg base A outer s H → BindsTo s fd args (ps.zip us) → Vals vs us → sp vs H Q E →
    codeAny (model P w) A (.call (.ref f) args) (CR CX outer P w H s Q E) s
theorem FnG.of {P : Program} {w : World} {K : PySem.W.Frag} {mg : Str → Option Value} {base : Heap} {CX : CXT} {k : Nat} {f : Addr} {fd : FuncData} {ps : List Str} {sp : Sp} (F : FnOk P w K mg base CX k f fd ps sp) : FnG P w K mg base CX k f fd ps sp :=
  ⟨F.len, fun A outer s H args us vs Q E hr _ e hb r h => F.run A outer s H args us vs Q E hr e hb r h⟩
section
variable {CX : CXT} {P : Program} {w : World} {K : PySem.W.Frag} {mg : Str → Option Value} {base : Heap} {k : Nat} {f : Addr}
theorem fn_ofG {name qual : Str} {params : Arguments} {body : List Stmt} {scope : Scope} {dV kV doc pm cdv ct oc : Value} {an od : Option Addr} {osl : Array (Option Value)} {N ps : List Str} {sp : Sp}
    (lk : K.lookup f = some ⟨oc, od, .func (PySem.W.fnOf name qual params body scope dV kV doc pm an cdv ct), osl⟩) (hcd : PySem.W.codeIn K cdv qual = true) (S : FnScope N ps scope) (len : ∀ vs H Q E, sp vs H Q E → vs.length = ps.length)
    (hbody : ∀ (A : Around) (outer : List Env) (s : Shared) (H : Hp) (vs : List V) (Q : VK) (E : XK), Room k (A.deeper (envOfC qual scope s.heap.objs.size f cdv)) → A.guards = some [] → sp vs H Q E →
      ∃ t, PSs (cxOf CX P w K mg base N qual scope f cdv A outer s H E) body t ∧ t { nx := fun _ H' => Q .non H', rt := Q } (start N vs) H) : FnG P w K mg base CX (k + 1) f (PySem.W.fnOf name qual params body scope dV kV doc pm an cdv ct) ps sp := by
  refine ⟨len, fun A outer s H args us vs Q E hr hg e0 hb r hsp => ?_⟩
  exact LamX.run_ofS (N := N) (ps := ps) (us := us) (vs := vs) lk hcd S hr e0 hb r (len _ _ _ _ hsp) fun hr' => hbody A outer s H vs Q E hr' hg hsp
theorem FunD.okG {x qual : Str} {params : Arguments} {body : List Stmt} {scope : Scope} {dvs : List V} {kws : List (Str × V)} {fd : FuncData} {N ps : List Str} {sp : Sp} (F : FunD K x qual params body scope dvs kws f fd) (S : FnScope N ps scope) (len : ∀ vs H Q E, sp vs H Q E → vs.length = ps.length)
    (hbody : ∀ (cdv : Value) (A : Around) (outer : List Env) (s : Shared) (H : Hp) (vs : List V) (Q : VK) (E : XK), PySem.W.codeIn K cdv qual = true → (∃ od oc osl, ∃ fd' : FuncData, K.lookup f = some ⟨oc, od, .func fd', osl⟩ ∧ fd'.code = cdv) → Room k (A.deeper (envOfC qual scope s.heap.objs.size f cdv)) → A.guards = some [] → sp vs H Q E →
      ∃ t, PSs (cxOf CX P w K mg base N qual scope f cdv A outer s H E) body t ∧ t { nx := fun _ H' => Q .non H', rt := Q } (start N vs) H) : FnG P w K mg base CX (k + 1) f fd ps sp := by
  obtain ⟨oc, od, dV, kV, doc, pm, an, cdv, ct, osl, rfl, lk, hcd, _, _⟩ := F.ex
  exact fn_ofG lk hcd S len fun A outer s H vs Q E hr hg hsp => hbody cdv A outer s H vs Q E hcd ⟨od, oc, osl, _, lk, rfl⟩ hr hg hsp
end
/-! ### a call of such a def -/
section
variable {X : Cx} {CX : CXT} {k : Nat} {f : Addr} {fd : FuncData} {ps : List Str} {sp : Sp} {dvs : List V} {ds : List Value} {E : XK} {x : Str} {p pos : Pos} {e : Expr} {es : List Expr} {t : TA}
theorem run_fnG {pins : List (Addr × Obj)} {σ : L2.St} {H : Hp} {s : Shared} {Q : VK} {us : List Value} {vs : List V} (F : FnG X.prog X.w X.K X.mg X.base CX k f fd ps sp) (hr : Room k X.A) (hg : X.A.guards = some []) (hb : Binds X.K fd ps ds) (hd : Vals dvs ds) (hx : Passes CX X E)
    (I : Inv X pins σ H s) (r : Vals vs us) (h : sp (vs ++ dvs) H Q E) : wpAny (model X.prog X.w) X.A (call (.ref f) us) (EP X pins σ Q) X.xe s := by
  have r2 : Vals (vs ++ dvs) (us ++ ds) := r.append hd
  have hl : (us ++ ds).length = ps.length := by rw [← r2.length]; exact F.len _ _ _ _ h
  refine wpAny_call (codeAny_mono (F.run X.A X.stack s H ⟨us, []⟩ (us ++ ds) (vs ++ dvs) Q E hr hg I.env0 (hb s us I.kIn hl) r2 h) fun r' s' q => ?_)
  cases r' with
  | error er => exact hx pins σ H s er s' I q
  | ok fl =>
    cases fl with
    | ret u => exact I.after q
    | next => exact False.elim q
    | brk => exact False.elim q
    | cont => exact False.elim q
theorem pe_callG (F : FnG X.prog X.w X.K X.mg X.base CX k f fd ps sp) (hr : Room k X.A) (hgd : X.A.guards = some []) (hg : Gl X x) (hm : X.mg x = some (.ref f)) (hk : PySem.W.keepIn X.K (.ref f) = true) (hb : Binds X.K fd ps ds) (hd : Vals dvs ds) (hx : Passes CX X E) (ha : PA X (e :: es) t) (hdb : (x == ("__debug__" : Str)) = false := by decide)
    (he : starEach (e :: es) X.env = (false, eval e X.env) :: starEach es X.env := by rfl) (hpl : (backTo pos (starEach es X.env)).any (·.1) = false := by rfl) : PE X (.Call (.Name x p) (e :: es) [] pos) (tCall sp dvs E t) := by
  refine ⟨fun pins s σ H Q I h => ?_⟩
  refine wpAny_Call_Name_kw (ld_glob I hg hm ?_ hdb)
  exact PySem.W.callWith_K (h₀ := X.base) I.ok.mod.kin hk (thn (ha.run pos pins s σ H _ I h) fun us s2 ⟨vs, H2, I2, r, q⟩ => ⟨I2.kIn, run_fnG F hr hgd hb hd hx I2 r q⟩) he hpl
/-! ### repr of data -/
def rRepr (K : PySem.W.Frag) : List V → Hp → VK → Prop := fun xs H Q => ∃ (x : V) (d : PyData), xs = [x] ∧ Dp K H x d ∧ d.showable = true ∧ d.hasDict = false ∧ d.depth ≤ 60 ∧ d.shown.length ≤ sizeLine ∧ Q (.str d.shown) H
theorem call_reprD (hg : X.A.guards = some []) (hu : X.A.units + 64 < cLine) : CallR X (.builtin "repr") (rRepr X.K) := by
  intro pins s σ H xs us Q I r h
  obtain ⟨x, d, rfl, dp, hs, hd, hz, hl, q⟩ := h
  have hus : ∃ u, us = [u] ∧ RelV x u := by
    cases r with
    | cons rv rn => cases rn; exact ⟨_, rfl, rv⟩
  obtain ⟨u, rfl, rv⟩ := hus
  obtain ⟨as, rd⟩ := Dp.reads I d x u dp rv
  have obj : ∀ a : Addr, u = Value.ref a → wpAny (model X.prog X.w) X.A (call (.builtin "repr") [u]) (EP X pins σ Q) X.xe s := by
    intro a e
    subst e
    refine repr_of_reads' rd hs (fun z => by rw [hd] at z; cases z) hg (by omega) (fun _ _ e => e) (fun h' t tk k => ⟨.str _, H, I.kept k, ⟨_, rfl⟩, q⟩) hl
  cases dp with
  | non =>
    cases rv
    exact PySem.P.repr_of_none ⟨.str _, H, I.tok _, ⟨_, rfl⟩, q⟩
  | bl b =>
    cases rv
    refine PySem.P.repr_of_bool ⟨.str _, H, I.tok _, ⟨_, rfl⟩, ?_⟩
    cases b <;> exact q
  | int i =>
    obtain ⟨t, rfl⟩ := rv
    refine PySem.P.repr_of_int ?_ ⟨.str _, H, I.tok _, ⟨_, rfl⟩, q⟩
    have z := hs
    unfold PyData.showable at z
    exact of_decide_eq_true z
  | str z =>
    obtain ⟨t, rfl⟩ := rv
    exact PySem.P.repr_of_str ⟨.str _, H, I.tok _, ⟨_, rfl⟩, q⟩ hl
  | lst h1 h2 => exact obj _ rv
  | tup h1 h2 => exact obj _ rv
end
end TC
set_option maxHeartbeats 2000000
/-! Lambdas without parameters, kept as values and called later: the cells that they read stand in a base. -/
namespace TC
open PySem PySem.Spec PyProof.Rows L2 LamX
/-- a lambda's object -/
abbrev lamObj (q : Str) (params : Arguments) (body : Expr) (scope : Scope) (cl : List (Str × Addr)) (pm : Value) (c : Addr) (ctv : Value) : Obj := PySem.W.kla_obj "<lambda>" q params body scope cl pm c ctv
/-- at f stands a lambda, its code object at c -/
def LamO (f : Addr) (q : Str) (params : Arguments) (body : Expr) (scope : Scope) (cl : List (Str × Addr)) (c : Addr) : HO := .ext fun h => ∃ pm ctv : Value, h.get? f = some (lamObj q params body scope cl pm c ctv)
section
variable {X : Cx} {pins : List (Addr × Obj)} {σ : L2.St} {H : Hp} {s : Shared}
/-- the lambda is made and tracked -/
theorem lam_made {T : List (Addr × Str)} {c P : Addr} {params : Arguments} {body : Expr} {scope : Scope} {pos : Pos} {E : Value → Shared → Prop} {Q : Value → Shared → Prop} (I : Inv X pins σ H s) (TB : TabB X.base X.mg c P) (hcode : X.env.code = .ref c)
    (hm : (P, X.env.qual ++ "<lambda>") ∈ T) (hu : ∀ p ∈ T, p.1 = P → p.2 = X.env.qual ++ "<lambda>") (hT : Tabs T H) (hdef : defaultsOf params X.env = ([], [])) (hfree : ∀ y ∈ scope.names, y.2 = .free → ∃ c, X.env.cells.lookup y.1 = some c)
    (h : ∀ (f c' : Addr) (H1 : Hp) (s' : Shared), Inv X pins σ (upd H1 f (LamO f (X.env.qual ++ "<lambda>") params body scope (cloFrom X.env.cells scope.names []) c')) s' → ExtN H H1 → H1 f = none → Tabs T H1 → H1 c' = some (CodeO c' (X.env.qual ++ "<lambda>")) → Q (.ref f) s') :
    wpAny (model X.prog X.w) X.A (eval (.Lambda params body scope pos) X.env) Q E s := by
  obtain ⟨ps, hP, ht, ha⟩ := hT _ hm
  have bP : s.heap.BuiltinsAt X.mg P := TB.bm.keeps I.bk
  have oP : s.heap.get? P = some { cls := .none, data := .fields ps } := I.hok P _ hP
  -- the object laid on a heap that holds the rest
  have lay : ∀ (H1 : Hp) (h' : Heap) (c' : Addr) (pm ctv : Value) (tk : Nat), Inv X pins σ H1 { s with heap := h', toks := tk } → ExtN H H1 → Tabs T H1 → H1 c' = some (CodeO c' (X.env.qual ++ "<lambda>")) →
      Q (.ref h'.objs.size) { s with heap := h'.push (lamObj (X.env.qual ++ "<lambda>") params body scope (cloFrom X.env.cells scope.names []) pm c' ctv), toks := tk } := by
    intro H1 h' c' pm ctv tk J x1 x2 x3
    have at_ : (h'.push (lamObj (X.env.qual ++ "<lambda>") params body scope (cloFrom X.env.cells scope.names []) pm c' ctv)).get? h'.objs.size = some (lamObj (X.env.qual ++ "<lambda>") params body scope (cloFrom X.env.cells scope.names []) pm c' ctv) := Heap.get?_push_size _ rfl
    have new : ObjOk X.prog X.w (upd H1 h'.objs.size (LamO h'.objs.size (X.env.qual ++ "<lambda>") params body scope (cloFrom X.env.cells scope.names []) c')) (h'.push (lamObj (X.env.qual ++ "<lambda>") params body scope (cloFrom X.env.cells scope.names []) pm c' ctv)) h'.objs.size (LamO h'.objs.size (X.env.qual ++ "<lambda>") params body scope (cloFrom X.env.cells scope.names []) c') :=
      ⟨⟨pm, ctv, at_⟩, ⟨_, at_⟩, fun h1 h2 z k => by obtain ⟨pm', ctv', e⟩ := z; exact ⟨pm', ctv', k _ e⟩⟩
    exact h h'.objs.size c' H1 _ (J.laid (t' := tk) (fun b u e => Heap.get?_push_of_some _ e) (Nat.le_refl _) new) x1 (J.hok.fresh (Nat.le_refl _)) x2 x3
  refine PySem.W.kla_eval hdef ?_
  cases hc : codeAmong pos ps.toList with
  | some cv =>
    obtain ⟨c', e, hco⟩ := ha pos cv hc
    subst e
    refine PySem.W.kla_makeFunctionHit (mg := X.mg) (c := c) (P := P) (ps := ps) (closure_ok hfree) I.ok.glob (I.mod.glob.keeps I.bk) hcode (TB.code.keeps I.bk) oP ht hc bP fun ctv h' tk hx hsz => ?_
    exact lay H h' c' _ ctv tk (I.kept hx) (ExtN.refl H) hT hco
  | none =>
    refine PySem.W.kla_makeFunction (mg := X.mg) (c := c) (P := P) (ps := ps) (closure_ok hfree) I.ok.glob (I.mod.glob.keeps I.bk) hcode (TB.code.keeps I.bk) oP ht hc TB.gP bP fun c' ctv h' tk hx hge hlt hrec htb => ?_
    obtain ⟨c2, oc, vs, t, e2, hoc, hd, hv⟩ := hrec
    cases e2
    have nC : H c' = none := I.hok.fresh hge
    have I1 := inv_table (t' := tk) (more := #[rawInt pos.line, rawInt pos.col, .ref c']) (h' := h') I hP (fun b o hb e => hx b o hb e) htb hge ⟨oc, vs, t, hoc, hd, hv⟩
    have x1 : ExtN H (upd (upd H P (.tbl (ps ++ #[rawInt pos.line, rawInt pos.col, .ref c']))) c' (CodeO c' (X.env.qual ++ "<lambda>"))) := fun b o e n => by
      rw [upd_ne (ne_of_none e nC), upd_ne (fun z => n ps (Option.some.inj (e.symm.trans (by rw [z]; exact hP))))]
      exact e
    have eL : (ps ++ #[rawInt pos.line, rawInt pos.col, .ref c']).toList = ps.toList ++ [rawInt pos.line, rawInt pos.col, .ref c'] := by simp
    refine lay _ h' c' _ ctv tk I1 x1 (fun p hp => ?_) upd_same
    by_cases hb : p.1 = P
    · rw [hu p hp hb, hb]
      refine ⟨_, by rw [upd_ne (ne_of_none hP nC), upd_same], by rw [eL]; exact PySem.TriplesOk_snoc _ _ _ _ ht, fun p' cv hcv => ?_⟩
      rw [eL] at hcv
      rcases among_app _ ht hcv with z | z
      · obtain ⟨c0, e1, e2⟩ := ha p' cv z
        exact ⟨c0, e1, x1 _ _ e2 codeO_ne⟩
      · exact ⟨c', z, upd_same⟩
    · obtain ⟨ps', a1, a2, a3⟩ := hT p hp
      refine ⟨ps', by rw [upd_ne (ne_of_none a1 nC), upd_ne hb]; exact a1, a2, fun p' cv hcv => ?_⟩
      obtain ⟨c0, e1, e2⟩ := a3 p' cv hcv
      exact ⟨c0, e1, x1 _ _ e2 codeO_ne⟩
/-- as a value -/
def tLamb (T : List (Addr × Str)) (q : Str) (params : Arguments) (body : Expr) (scope : Scope) (cl : List (Str × Addr)) : TE := fun _ H Q => Tabs T H ∧ ∀ (f c' : Addr) (H1 : Hp), ExtN H H1 → H1 f = none → Tabs T H1 → H1 c' = some (CodeO c' q) → Q (.ref f) (upd H1 f (LamO f q params body scope cl c'))
theorem pe_lamb {T : List (Addr × Str)} {c P : Addr} {params : Arguments} {body : Expr} {scope : Scope} {pos : Pos} (TB : TabB X.base X.mg c P) (hcode : X.env.code = .ref c) (hm : (P, X.env.qual ++ "<lambda>") ∈ T) (hu : ∀ p ∈ T, p.1 = P → p.2 = X.env.qual ++ "<lambda>")
    (L : LamS X.env.scope scope) (hdef : defaultsOf params X.env = ([], [])) : PE X (.Lambda params body scope pos) (tLamb T (X.env.qual ++ "<lambda>") params body scope (cloFrom X.env.cells scope.names [])) := by
  refine ⟨fun pins s σ H Q I h => ?_⟩
  exact lam_made I TB hcode hm hu h.1 hdef (L.has I.ok) fun f c' H1 s' J x1 x2 x3 x4 => ⟨.ref f, _, J, rfl, h.2 f c' H1 x1 x2 x3 x4⟩
end
/-! ### a thunk: what is called without arguments -/
def Thunk (P : Program) (w : World) (K : PySem.W.Frag) (mg : Str → Option Value) (base : Heap) (k : Nat) (f : Addr) (H : Hp) (Q : VK) (E : XK) : Prop :=
  ∀ (A : Around) (outer : List Env) (s : Shared), Room k A → A.guards = some [] → Env0 P w K mg base A outer s H → PySem.W.FnAt f s.heap ∧ codeAny (model P w) A (.call (.ref f) ⟨[], []⟩) (CR (L2.CX P w) outer P w H s Q E) s
/-- the context of a lambda's body -/
def lamC (P : Program) (w : World) (K : PySem.W.Frag) (mg : Str → Option Value) (base : Heap) (N : List Str) (q : Str) (scope : Scope) (f c : Addr) (cl : List (Str × Addr)) (A : Around) (outer : List Env) (s : Shared) (H : Hp) (E : XK) : Cx where
  prog := P
  w := w
  K := K
  mg := mg
  base := base
  A := A.deeper (PySem.W.envX q scope s.heap.objs.size f (.ref c) cl)
  N := N
  s_0 := s
  H_0 := H
  env := PySem.W.envX q scope s.heap.objs.size f (.ref c) cl
  outer := outer
  stack := PySem.W.envX q scope s.heap.objs.size f (.ref c) cl :: outer
  ex := []
  fn := fun _ => false
  calm := true
  pn := []
  xe := fun e s' => wpAny (model P w) (A.deeper (PySem.W.envX q scope s.heap.objs.size f (.ref c) cl)) (leaving (PySem.W.envX q scope s.heap.objs.size f (.ref c) cl) e) (fun _ s'' => L2.CX P w outer H s E e s'') (fun e' s'' => L2.CX P w outer H s E e' s'') s'
/-- what is known of the cells -/
structure CellsIn (base : Heap) (cl : List (Str × Addr)) (scope : Scope) (N : List Str) (σ : L2.St) : Prop where
  inj : ∀ x y c, cl.lookup x = some c → cl.lookup y = some c → x = y
  has : ∀ x, scope.names.lookup x = some .free → ∃ c, cl.lookup x = some c
  cell : ∀ x c, cl.lookup x = some c → ∃ v, base.IsCell c v
  val : ∀ (i : Nat) x v, N[i]? = some x → σ[i]? = some (some v) → scope.names.lookup x = some .free → ∃ c u, cl.lookup x = some c ∧ base.IsCell c (some u) ∧ RelV v u
  len : σ.length = N.length
structure LamP (scope : Scope) : Prop where
  kind : scope.kind = .function
  co : scope.isCoroutine = false
  gen : scope.isGenerator = false
  own : ∀ y ∈ scope.names, y.2 ≠ .local ∧ y.2 ≠ .cell
theorem lam_thunk {P : Program} {w : World} {K : PySem.W.Frag} {mg : Str → Option Value} {base : Heap} {k : Nat} {f c : Addr} {H : Hp} {Q : VK} {E : XK} {N : List Str} {σ : L2.St} {q : Str} {params : Arguments} {body : Expr} {scope : Scope} {cl : List (Str × Addr)} {t : TE}
    (L : LamP scope) (C : CellsIn base cl scope N σ) (hf : H f = some (LamO f q params body scope cl c)) (hc : H c = some (CodeO c q)) (hbind : ∀ (pm cv ctv : Value), bindArgs (PySem.W.kla_fn "<lambda>" q params body scope cl pm cv ctv) ⟨[], []⟩ = pure [])
    (hbody : ∀ (A : Around) (outer : List Env) (s : Shared), Room k (A.deeper (PySem.W.envX q scope s.heap.objs.size f (.ref c) cl)) → A.guards = some [] → PE (lamC P w K mg base N q scope f c cl A outer s H E) body t) (ht : t σ H Q) : Thunk P w K mg base (k + 1) f H Q E := by
  intro A outer s hr hg e0
  obtain ⟨⟨pm, ctv, of⟩, _, _⟩ := e0.hok f _ hf
  obtain ⟨⟨oc, vs, tq, hoc, hdc, hvc⟩, _, _⟩ := e0.hok c _ hc
  refine ⟨⟨_, _, _, _, of⟩, ?_⟩
  have lim : s.heap.NoLimit := e0.mod.nolimit.keeps fun b o e => (e0.bs b o e).1
  refine PySem.W.kla_callFunE hr.depth of rfl L.co L.gen rfl ⟨c, oc, vs, tq, rfl, hoc, hdc, hvc⟩ ?_
  rw [hbind]
  refine wpAny_pure (wpAny_newFunctionEnv (fun y hy => (L.own y hy).2) (fun y hy => absurd hy (by simp)) (fun h₁ hns hsb => ⟨lim.fresh _ hsb, ?_⟩) L.kind)
  show codeAny _ _ (.expr body (PySem.W.envX q scope s.heap.objs.size f (.ref c) cl)) _ _
  have kp : ∀ b o, s.heap.get? b = some o → h₁.get? b = some o := fun b o e => hsb.extBut b o (Nat.ne_of_lt (Heap.lt_size e)) (Heap.get?_push_of_some _ e)
  have bc : ∀ {c : Addr} {v : Option Value}, base.IsCell c v → h₁.IsCell c v ∧ H c = none := fun {c v} ⟨o, ho, hd⟩ => ⟨⟨o, kp _ _ (e0.bs _ _ ho).1, hd⟩, (e0.bs _ _ ho).2⟩
  have J : Inv (lamC P w K mg base N q scope f c cl A outer s H E) [] σ H { s with heap := h₁, toks := s.toks + ([] : List (Str × Value)).length } := by
    refine ⟨⟨e0.mod, L.kind, rfl, rfl, Nat.le_refl _, C.inj, fun x hx => ?_, (fun y c z _ => Bool.noConfusion (show false = true from z)), fun _ => hr.hd, Around.frames_deeper e0.frames, .inr ⟨rfl, rfl⟩, (fun b z => absurd (show b ∈ ([] : List Addr) from z) (by simp)), e0.bs, e0.bsz, (fun b _ _ z => absurd (show b ∈ ([] : List Addr) from z) (by simp)), (fun b z => absurd (show b ∈ ([] : List Addr) from z) (by simp)), e0.funs, e0.frf⟩,
      rfl, e0.bare, Un.kept kp, ⟨_, hns, fun i x v e1 e2 e3 => ?_⟩, fun x c e => ?_, e0.hok.fresh (Nat.le_refl _), fun x c e => ?_, fun p hp => absurd (show p ∈ ([] : List (Addr × Obj)) ++ [] from hp) (by simp), e0.hok.kept kp, C.len⟩
    · rcases hx with z | z
      · exact absurd rfl (L.own _ (PySem.mem_of_lookup z)).2
      · exact C.has x z
    · rcases e3 with z | z | z
      · exact absurd rfl (L.own _ (PySem.mem_of_lookup z)).1
      · exact absurd rfl (L.own _ (PySem.mem_of_lookup z)).2
      · obtain ⟨c0, u, g1, g2, g3⟩ := C.val i x v e1 e2 z
        exact ⟨u, g3, .inr ⟨.inr z, c0, g1, (bc g2).1⟩⟩
    · obtain ⟨v, z⟩ := C.cell x c e
      exact ⟨v, (bc z).1⟩
    · obtain ⟨v, z⟩ := C.cell x c e
      exact (bc z).2
  refine PySem.W.kla_codeExpr (wpAny_mono ((hbody A outer s (hr.deeper _) hg).run [] _ _ H Q J ht) (fun v s' hq => ?_) fun e s' hq => hq)
  obtain ⟨v', H', J', rv, z⟩ := hq
  exact ⟨v', H', J'.os, J'.bare, J'.base, J'.hok, rv, z⟩
/-! ### its call by a name -/
section
variable {X : Cx}
def tThunk (P : Program) (w : World) (K : PySem.W.Frag) (mg : Str → Option Value) (base : Heap) (k i : Nat) (W : WX) : TE := fun σ H Q => ∃ f : Addr, σ[i]? = some (some (.ref f)) ∧ Thunk P w K mg base k f H Q (fun cls d H' => ∀ σ', W cls d σ' H')
theorem pe_thunk {W : WX} {i k : Nat} {x : Str} {p pos : Pos} (hr : Room k X.A) (hg : X.A.guards = some []) (hx : Passes (L2.CX X.prog X.w) X (fun cls d H' => ∀ σ', W cls d σ' H')) (hN : X.N[i]? = some x) (hv : Vis X.env.scope x) (hdb : (x == ("__debug__" : Str)) = false := by decide) (hcd : (x == ("__classdict__" : Str)) = false := by decide) :
    PE X (.Call (.Name x p) [] [] pos) (tThunk X.prog X.w X.K X.mg X.base k i W) := by
  refine ⟨fun pins s σ H Q I h => ?_⟩
  obtain ⟨f, hs, th⟩ := h
  refine wpAny_Call_Name_kw (thn ((pe_var (pos := p) hN hv hdb hcd).run pins s σ H (fun v H1 => v = .ref f ∧ H1 = H) I ⟨.ref f, hs, rfl, rfl⟩) fun u s1 ⟨v, H1, I1, r1, q1⟩ => ?_)
  obtain ⟨rfl, rfl⟩ := q1
  obtain rfl : u = Value.ref f := r1
  obtain ⟨fa, rc⟩ := th X.A X.stack s1 hr hg I1.env0
  refine PySem.W.callWith_F0 fa (wpAny_call (codeAny_mono rc fun r s' hq => ?_))
  cases r with
  | error e => exact hx pins σ _ s1 e s' I1 hq
  | ok fl =>
    cases fl with
    | ret u => exact I1.after hq
    | next => exact False.elim hq
    | brk => exact False.elim hq
    | cont => exact False.elim hq
end
end TC
set_option maxHeartbeats 2000000
/-! A list comprehension whose tests and element may use what is known at its entry; the base with the frame's cells. -/
namespace TC
open PySem PySem.Spec PyProof.Rows L2 LamX
/-! ### the base, with this frame's cells as they stand -/
structure Based (X : Cx) (s : Shared) (H : Hp) (B : Heap) : Prop where
  mod : L2.Mod X.K X.mg B
  old : ∀ b o, X.base.get? b = some o → B.get? b = some o
  bs : ∀ b o, B.get? b = some o → s.heap.get? b = some o ∧ H b = none ∧ b ∉ frs X.stack ∧ ((∃ o', X.base.get? b = some o') ∨ ∃ x, X.env.cells.lookup x = some b)
  sz : B.objs.size ≤ s.heap.objs.size
  cell : ∀ x c v, X.env.cells.lookup x = some c → s.heap.IsCell c v → B.IsCell c v
theorem mem_of_look {α : Type} {x : Str} {v : α} : ∀ {l : List (Str × α)}, l.lookup x = some v → v ∈ l.map (·.2)
  | [], h => by cases h
  | (y, u) :: r, h => by
    rw [List.lookup_cons] at h
    cases e : (x == y) with
    | true => rw [e] at h; cases h; exact List.mem_cons_self ..
    | false => rw [e] at h; exact List.mem_cons_of_mem _ (mem_of_look h)
section
variable {X : Cx} {pins : List (Addr × Obj)} {σ : L2.St} {H : Hp} {s : Shared}
theorem based (I : Inv X pins σ H s) (hfn : ∀ x, X.fn x = true) : ∃ B, Based X s H B := by
  let keepB : Addr → Bool := fun b => (X.base.get? b).isSome || X.env.cells.any (fun p => decide (X.env.cells.lookup p.1 = some b))
  let out : List Addr := (List.range s.heap.objs.size).filter fun b => !keepB b
  have get : ∀ b o, s.heap.get? b = some o → keepB b = true → (PySem.W.hideAll s.heap out).get? b = some o := fun b o e hk => PySem.W.hideAll_get out e fun hm => by
    have z := (List.mem_filter.mp hm).2
    rw [hk] at z
    cases z
  have back : ∀ b o, (PySem.W.hideAll s.heap out).get? b = some o → s.heap.get? b = some o ∧ keepB b = true := fun b o e => by
    have e' := PySem.W.of_hideAll out e
    refine ⟨e', ?_⟩
    cases hk : keepB b with
    | true => rfl
    | false =>
      have hm : b ∈ out := List.mem_filter.mpr ⟨List.mem_range.mpr (Heap.lt_size e'), by rw [hk]; rfl⟩
      rw [PySem.W.hideAll_none out hm] at e
      cases e
  have old : ∀ b o, X.base.get? b = some o → (PySem.W.hideAll s.heap out).get? b = some o := fun b o e => get b o (I.bk b o e) (by show ((X.base.get? b).isSome || _) = true; rw [e]; rfl)
  have inK : ∀ x c, X.env.cells.lookup x = some c → keepB c = true := fun x c e => by
    have hx : X.env.cells.any (fun p => decide (X.env.cells.lookup p.1 = some c)) = true := List.any_eq_true.mpr ⟨(x, c), PySem.mem_of_lookup e, decide_eq_true e⟩
    show ((X.base.get? c).isSome || X.env.cells.any (fun p => decide (X.env.cells.lookup p.1 = some c))) = true
    rw [hx, Bool.or_true]
  refine ⟨PySem.W.hideAll s.heap out, ⟨I.ok.mod.kin.keeps old, I.ok.mod.glob.keeps old, ?_, I.ok.mod.nolimit.keeps old⟩, old, fun b o e => ?_, Nat.le_of_eq (PySem.W.hideAll_size _ _), fun x c v e ⟨o, ho, hd⟩ => ⟨o, get c o ho (inK x c e), hd⟩⟩
  · obtain ⟨mb, h1, h2⟩ := I.ok.mod.blt
    exact ⟨mb, h1.keeps old, h2⟩
  · obtain ⟨e', hk⟩ := back b o e
    have hk' : ((X.base.get? b).isSome || X.env.cells.any (fun p => decide (X.env.cells.lookup p.1 = some b))) = true := hk
    rcases Bool.or_eq_true_iff.mp hk' with z | z
    · obtain ⟨o', eo⟩ := Option.isSome_iff_exists.mp z
      refine ⟨e', (I.bs b o' eo).2, fun hm => ?_, .inl ⟨o', eo⟩⟩
      have y := (I.stack.mem hm).1
      rw [eo] at y
      cases y
    · obtain ⟨⟨x, xc⟩, _, ex'⟩ := List.any_eq_true.mp z
      have ex : X.env.cells.lookup x = some b := of_decide_eq_true ex'
      refine ⟨e', I.freeC x b ex, fun hm => ?_, .inr ⟨x, ex⟩⟩
      rcases List.mem_cons.mp (I.stkSub b hm) with y | y
      · exact I.cne x b ex y
      · obtain ⟨_, o2, ho2, _⟩ := I.ok.funs.mem y
        exact absurd (Nat.lt_of_lt_of_le (Heap.lt_size ho2) (I.ok.cab x b (hfn x) ex)) (Nat.lt_irrefl _)
theorem Based.fun_ {B : Heap} (b : Based X s H B) : ∀ {l : List Env} {h : Heap}, (∀ L ∈ frs l, L ∈ frs X.stack) → h.FunFrames X.base l → h.FunFrames B l
  | [], _, _, _ => trivial
  | env :: r, h, hs, ⟨hk, ⟨L, o, hf, hn, ho, hd⟩, hr⟩ => by
    have mem : ∀ L' ∈ frs r, L' ∈ frs (env :: r) := fun L' hm => by
      unfold frs
      rw [List.filterMap_cons, hf]
      exact List.mem_cons_of_mem _ hm
    refine ⟨hk, ⟨L, o, hf, ?_, ho, hd⟩, Based.fun_ b (fun L' hm => hs L' (mem L' hm)) hr⟩
    cases e : B.get? L with
    | none => rfl
    | some u =>
      refine absurd (hs L ?_) (b.bs L u e).2.2.1
      unfold frs
      rw [List.filterMap_cons, hf]
      exact List.mem_cons_self ..
/-- what stands at a block's entry -/
def Entry (X : Cx) (σ : L2.St) (s : Shared) (H : Hp) (fp : List Addr) : Prop := ∃ pins, Inv X pins σ H s ∧ ∀ b ∈ fp, FpOk X pins H b ∧ b < s.heap.objs.size
/-- from a state of the block: what a callee wants, over the greater base -/
theorem Based.env0 {B : Heap} {scope : Scope} {cenv : Env} {fp : List Addr} {pins1 : List (Addr × Obj)} {σ1 : L2.St} {H1 : Hp} {s1 : Shared} (b : Based X s H B) (hfp : ∀ a ∈ fp, FpOk X pins H a) (I1 : Inv (X.blk s H scope cenv fp) pins1 σ1 H1 s1) :
    Env0 X.prog X.w X.K X.mg B X.A X.stack s1 H1 := by
  have e := I1.env0
  have out : ∀ c o, B.get? c = some o → c ∉ fp := fun c o ec hm => by
    rcases (b.bs c o ec).2.2.2 with ⟨o', z⟩ | ⟨x, z⟩
    · exact I1.ok.noex c o' z hm
    · exact (hfp c hm).2.2.2.2.1 x c z rfl
  refine ⟨e.frames, b.mod, fun c o ec => ?_, Nat.le_trans b.sz I1.sz, ?_, e.frf, e.hok, e.bare⟩
  · obtain ⟨h1, h2, h3, _⟩ := b.bs c o ec
    exact ⟨I1.base.keep c o h1 h2 h3 (out c o ec), I1.base.free c o h1 h2 (out c o ec)⟩
  · exact b.fun_ (fun _ hm => hm) e.funs
end
section
variable {X : Cx}
theorem lcE_core {pins : List (Addr × Obj)} {s : Shared} {σ : L2.St} {H : Hp} {Q : VK} {elt tg iter : Expr} {ifs : List Expr} {scope : Scope} {own : List (Str × Nat)} {pos pos' : Pos} {wi : TI} {g : TG} {tt : TT} {te : TE} {Qf : Value → Shared → Prop}
    (hc : X.calm = true) (hN : X.N.Nodup) (I : Inv X pins σ H s) (hi : PI X tg iter wi) (ok : BlkOk X.N X.env.scope scope own) (hg : ∀ (s : Shared) (H : Hp) (C : Addr) (cl : List (Str × Addr)) (fp : List Addr), PG (X.blk s H scope (compEnvC scope cl C X.env) fp) tg g)
    (ht : ∀ (s : Shared) (H : Hp) (C : Addr) (cl : List (Str × Addr)) (fp : List Addr), Entry X σ s H fp → PTs (X.blk s H scope (compEnvC scope cl C X.env) fp) ifs tt)
    (he : ∀ (s : Shared) (H : Hp) (C : Addr) (cl : List (Str × Addr)) (fp : List Addr), Entry X σ s H fp → PE (X.blk s H scope (compEnvC scope cl C X.env) fp) elt te) (hs : ∀ x, foldedSetIterable iter X.env x = pure x) (h : tLc wi g tt te (own.map (·.2)) σ H Q)
    (hend : ∀ D C s' m H', Inv X pins σ H' s' → Q (.ref D) H' → s'.heap.Ns C m → FpOk X pins H' C → compPost (model X.prog X.w) X.A X.xe none Qf (.ref D) C (.ok .next) s') :
    wpAny (model X.prog X.w) X.A (comprehension (.ListComp elt [⟨tg, iter, ifs, 0⟩] scope pos) scope X.env pos' (newList []) false (eval iter X.env) none) Qf X.xe s := by
  have free : ∀ y ∈ scope.names, y.2 = .free → ∃ c, X.env.cells.lookup y.1 = some c := by
    intro y hy e
    rcases ok.free y hy e with k | k
    · exact I.ok.has _ (.inl k)
    · exact I.ok.has _ (.inr k)
  refine wpAny_comprehension_free (use := none) rfl hs (closure_ok free) ok.kind (fun y hy e => by rw [ok.uniq y hy, e]) (thn (hi.run pins s σ H _ I h) fun xv s1 hx => thn hx fun itv s2 h2 => ?_)
  obtain ⟨it, fp, tn, J, H2, e, I2, T, st2, f2, q⟩ := h2
  subst e
  refine wpAny_newObj_type (newEnv_comp ?_) (by show 0 ≤ sizeLine; decide)
  generalize hD : s2.heap.objs.size = D
  obtain ⟨W, ⟨m0, w0⟩, turn⟩ := q D (I2.hok.fresh (Nat.le_of_eq hD))
  generalize hs3 : ({ s2 with heap := s2.heap.push { cls := .type "list", data := .seq ([] : List Value).toArray } } : Shared) = s3
  have h3 : s3.heap = s2.heap.push { cls := .type "list", data := .seq ([] : List Value).toArray } := by rw [← hs3]
  have I3 : Inv X pins σ (upd H2 D (.lst [])) s3 := by
    rw [← hs3]
    refine I2.laid (t' := s2.toks) (fun b o e => Heap.get?_push_of_some _ e) (Nat.le_of_eq hD) ⟨Nat.zero_le _, [], 0, .nil, ?_⟩
    rw [← hD]
    exact Heap.get?_push_size _ rfl
  have f3 : ∀ b ∈ fp, FpOk X pins (upd H2 D (.lst [])) b ∧ b < s3.heap.objs.size := by
    intro b hb
    obtain ⟨o, eo, _⟩ := T.obj _ _ st2 b hb
    have lt := Heap.lt_size eo
    refine ⟨⟨?_, (f2 b hb).2⟩, by rw [h3, Heap.size_push]; exact Nat.lt_succ_of_lt lt⟩
    rw [upd_ne (by rw [← hD]; exact Nat.ne_of_lt lt)]
    exact (f2 b hb).1
  have st3 : tn 0 s3.heap := T.keep _ _ _ st2 fun b _ o e => by rw [h3]; exact Heap.get?_push_of_some _ e
  have I4 := block_start I3 ok hN f3
  have ent : Entry X σ s3 (upd H2 D (.lst [])) fp := ⟨pins, I3, f3⟩
  have pg := hg s3 (upd H2 D (.lst [])) s3.heap.objs.size (cellsFrom (s3.heap.objs.size + 1) scope.names (cloFrom X.env.cells scope.names [])) fp
  have pt := ht s3 (upd H2 D (.lst [])) s3.heap.objs.size (cellsFrom (s3.heap.objs.size + 1) scope.names (cloFrom X.env.cells scope.names [])) fp ent
  have pe := he s3 (upd H2 D (.lst [])) s3.heap.objs.size (cellsFrom (s3.heap.objs.size + 1) scope.names (cloFrom X.env.cells scope.names [])) fp ent
  have nfp : ∀ b ∈ fp, (upd H2 D (.lst [])) b = none := fun b hb => (f3 b hb).1.1
  show codeAny _ _ (.compStart (.ListComp elt [⟨tg, iter, ifs, 0⟩] scope pos) 0 (.ref it) (.ref D) (compEnvC scope (cellsFrom (s3.heap.objs.size + 1) scope.names (cloFrom X.env.cells scope.names [])) s3.heap.objs.size X.env)) (compPost (model X.prog X.w) X.A X.xe none Qf (.ref D) s3.heap.objs.size) { s3 with heap := pushCells (s3.heap.push { cls := .type "dict", data := .dict #[] }) scope.names }
  generalize hce : compEnvC scope (cellsFrom (s3.heap.objs.size + 1) scope.names (cloFrom X.env.cells scope.names [])) s3.heap.objs.size X.env = ce at I4 pg pt pe ⊢
  have cL : ce.locals = s3.heap.objs.size := by subst hce; rfl
  generalize hH3 : upd H2 D (.lst []) = H3 at I3 I4 pg pt pe w0 nfp f3
  generalize hs4 : ({ s3 with heap := pushCells (s3.heap.push { cls := .type "dict", data := .dict #[] }) scope.names } : Shared) = s4 at I4 ⊢
  have st4 : tn 0 s4.heap := T.keep _ _ _ st3 fun b _ o e => by rw [← hs4]; exact pushCells_keeps _ _ _ _ (Heap.get?_push_of_some _ e)
  have stat : ∀ {σ' : L2.St} {H' : Hp} {s' : Shared}, Inv (X.blk s3 H3 scope ce fp) [] σ' H' s' → (∀ b ∈ fp, H' b = none) → ∀ b ∈ fp, FpOk (X.blk s3 H3 scope ce fp) [] H' b := fun {σ' H' s'} I' hn b hb =>
    ⟨hn b hb, (I'.ok.exf b hb).1, I'.ok.exfs b hb, .inl hb, (fun x c e => (I'.ok.exf b hb).2 x c e), (fun p hp => absurd (show p ∈ ([] : List (Addr × Obj)) ++ [] from hp) (by simp))⟩
  refine codeAny_compStart_list ?loop (T.self X.A 0 _ _ _ st4 ?loop)
  refine compLoop_any (fun n s' => ∃ i H', Inv (X.blk s3 H3 scope ce fp) [] (wipe σ (own.map (·.2))) H' s' ∧ tn i s'.heap ∧ (∀ b ∈ fp, H' b = none) ∧ W i n H') ?_ m0 ⟨0, H3, I4, st4, nfp, w0⟩
  rintro n s5 ⟨i, H5, I5, st5, n5, w5⟩
  rcases turn i n H5 w5 with ⟨stop, qq⟩ | ⟨go, Nx, hNx, step⟩
  · refine thnF (T.done (X.blk s3 H3 scope ce fp) rfl rfl rfl hc i [] s5 _ H5 (fun _ _ => False) I5 (stat I5 n5) st5 stop) fun r s6 ⟨hr, I6⟩ => ?_
    subst hr
    have I7 : Inv X pins σ H5 s6 := I3.call' (ch := fp) I6.os I6.base I6.hok I6.bare fun b hb => ⟨(f3 b hb).1.2.2.2.1, (f3 b hb).1.2.1, (f3 b hb).1.2.2.2.2.1, (f3 b hb).1.2.2.2.2.2⟩
    have nC : H5 s3.heap.objs.size = none := by rw [← cL]; exact I6.free
    obtain ⟨m, hn, _⟩ := I6.loc
    have hn : s6.heap.Ns ce.locals m := hn
    rw [cL] at hn
    exact hend D s3.heap.objs.size s6 m H5 I7 qq hn (I3.fpOk (Nat.le_refl _) nC)
  · refine thnF (T.item (X.blk s3 H3 scope ce fp) rfl rfl rfl hc i [] s5 _ H5 (fun _ _ => False) I5 (stat I5 n5) st5 go) fun r s6 ⟨u, hr, h6⟩ => ?_
    subst hr
    refine thnF h6 fun _ s7 ⟨x, H7, I7, r7, y7, st7, n7⟩ => ?_
    refine thnF (pg.run _ s7 _ H7 x u _ (I7.pinned (stat I7 n7) (T.obj _ _ st7)) r7 (step x H7 y7)) fun _ s8 ⟨σ8, H8, I8, hw8, q8⟩ => ?_
    have fin : ∀ {s' : Shared} {H' : Hp}, Inv (X.blk s3 H3 scope ce fp) ([] ++ pinsAt fp s7.heap) σ8 H' s' → Nx H' → ∃ m, m < n ∧ ∃ i H', Inv (X.blk s3 H3 scope ce fp) [] (wipe σ (own.map (·.2))) H' s' ∧ tn i s'.heap ∧ (∀ b ∈ fp, H' b = none) ∧ W i m H' := by
      intro s' H' I' nx
      obtain ⟨m', hm, w'⟩ := hNx H' nx
      have at_ : ∀ b ∈ fp, ∀ o, s7.heap.get? b = some o → s'.heap.get? b = some o ∧ H' b = none := fun b hb o e =>
        let z := I'.pin (b, o) (List.mem_append_right _ (List.mem_append_right _ (mem_pinsAt hb e)))
        ⟨z.1, z.2.1⟩
      refine ⟨m', hm, i + 1, H', (I'.unpinned (pins := [])).weak (by rw [← hw8, wipe_length]) (fun j v e => ?_), T.keep _ _ _ st7 fun b hb o e => (at_ b hb o e).1, fun b hb => ?_, w'⟩
      · rw [← hw8] at e
        exact (wipe_some e).1
      · obtain ⟨o, e, _⟩ := T.obj _ _ st7 b hb
        exact (at_ b hb o e).2
    refine thnF (pt.run _ s8 σ8 H8 _ I8 q8) fun b s9 ⟨H9, I9, q9⟩ => ?_
    cases b with
    | false =>
      simp only [Bool.false_eq_true, if_false] at q9 ⊢
      exact fin I9 q9
    | true =>
      simp only [if_true] at q9 ⊢
      refine thnF (pe.run _ s9 σ8 H9 _ I9 q9) fun z s10 ⟨yv, H10, I10, r10, acc, hD10, hz10, nx⟩ => ?_
      exact app_ok (X := X.blk s3 H3 scope ce fp) I10 hD10 hz10 r10 fun s11 I11 => fin I11 nx
/-- as a value -/
theorem pe_lcE {elt tg iter : Expr} {ifs : List Expr} {scope : Scope} {own : List (Str × Nat)} {pos : Pos} {wi : TI} {g : TG} {tt : L2.St → TT} {te : L2.St → TE} (hc : X.calm = true) (hN : X.N.Nodup) (hi : PI X tg iter wi) (ok : BlkOk X.N X.env.scope scope own)
    (hg : ∀ (s : Shared) (H : Hp) (C : Addr) (cl : List (Str × Addr)) (fp : List Addr), PG (X.blk s H scope (compEnvC scope cl C X.env) fp) tg g)
    (ht : ∀ (σ : L2.St) (s : Shared) (H : Hp) (C : Addr) (cl : List (Str × Addr)) (fp : List Addr), Entry X σ s H fp → PTs (X.blk s H scope (compEnvC scope cl C X.env) fp) ifs (tt σ))
    (he : ∀ (σ : L2.St) (s : Shared) (H : Hp) (C : Addr) (cl : List (Str × Addr)) (fp : List Addr), Entry X σ s H fp → PE (X.blk s H scope (compEnvC scope cl C X.env) fp) elt (te σ)) (hs : ∀ x, foldedSetIterable iter X.env x = pure x := by intro _; rfl) :
    PE X (.ListComp elt [⟨tg, iter, ifs, 0⟩] scope pos) (fun σ H Q => tLc wi g (tt σ) (te σ) (own.map (·.2)) σ H Q) := by
  refine ⟨fun pins s σ H Q I h => ?_⟩
  rw [eval_ListComp]
  refine lcE_core hc hN I hi ok hg (ht σ) (he σ) hs h fun D C s' m H' I' q hn f => ⟨m, hn, fun h'' sb => ?_⟩
  obtain ⟨f0, f1, f2, f3, f4, f5⟩ := f
  exact ⟨.ref D, H', I'.turned (t' := s'.toks) (fun b o hb e => (sb.2 b hb).trans e) f0 f1 f3 f4 f5, rfl, q⟩
end
end TC
set_option maxHeartbeats 2000000
/-! Walks over what may be a list or a tuple; enumerate of it; [::-1] of a tuple. -/
namespace TC
open PySem PySem.Spec PyProof.Rows L2
/-- a list (false), a tuple (true) of xs at a -/
def SqB (K : PySem.W.Frag) (H : Hp) (b : Bool) (a : Addr) (xs : List V) : Prop := if b = true then SqT K H a xs else SqL K H a xs
theorem SqB.t {K : PySem.W.Frag} {H : Hp} {a : Addr} {xs : List V} (h : SqT K H a xs) : SqB K H true a xs := h
theorem SqB.l {K : PySem.W.Frag} {H : Hp} {a : Addr} {xs : List V} (h : SqL K H a xs) : SqB K H false a xs := h
theorem SqB.or {K : PySem.W.Frag} {H : Hp} {b : Bool} {a : Addr} {xs : List V} (h : SqB K H b a xs) : SqL K H a xs ∨ SqT K H a xs := by
  cases b with
  | true => exact .inr h
  | false => exact .inl h
theorem SqB.ex {K : PySem.W.Frag} {H H' : Hp} {b : Bool} {a : Addr} {xs : List V} (e : Evl.Ex H H') (h : SqB K H b a xs) : SqB K H' b a xs := by
  cases b with
  | true => exact Evl.ex_t e h
  | false => exact Evl.ex_l e h
def ItB (K : PySem.W.Frag) (b : Bool) (a : Addr) : It := if b = true then Itt K a else Itl K a
theorem walk_B {K : PySem.W.Frag} {b : Bool} {a : Addr} {xs : List V} : Walk (ItB K b a) xs.length (fun H => SqB K H b a xs) (YAt xs) := by
  cases b with
  | true => exact walk_tup
  | false => exact walk_list
/-! ### for x in l -/
def iAny (K : PySem.W.Frag) (tl : TE) : TI := fun σ H R => tl σ H fun x H1 => ∃ b a, x = .ref a ∧ (∃ xs, SqB K H1 b a xs) ∧ R (ItB K b a) H1
section
variable {X : Cx} {tg : Expr}
theorem pi_any {l : Expr} {tl : TE} (hl : PE X l tl) : PI X tg l (iAny X.K tl) := by
  refine ⟨fun pins s σ H R I h => ?_⟩
  refine thn (hl.run pins s σ H _ I h) fun v s1 ⟨x, H1, I1, r1, q1⟩ => ?_
  obtain ⟨b, a, e, ⟨xs, hq⟩, q⟩ := q1
  subst e
  cases r1
  cases b with
  | true =>
    obtain ⟨its, rv, p, hz⟩ := I1.tuple hq
    refine wpAny_pyIter_tuple (show s1.heap.IsTuple a its.toArray from p) ?_
    refine ⟨s1.heap.objs.size, [s1.heap.objs.size], _, _, H1, rfl, I1.kept (t' := s1.toks) fun b o e => Heap.get?_push_of_some _ e, turn_tuple a _, ⟨_, Heap.get?_push_size _ rfl, rfl, rfl⟩, fun b hb => ?_, q⟩
    have e : b = s1.heap.objs.size := by simpa using hb
    subst e
    exact I1.fpOk (Nat.le_refl _) (I1.hok.fresh (Nat.le_refl _))
  | false =>
    obtain ⟨its, rv, p, hz⟩ := I1.list hq
    refine wpAny_pyIter_list p.isList ?_
    refine ⟨s1.heap.objs.size, [s1.heap.objs.size], _, _, H1, rfl, I1.kept (t' := s1.toks) fun b o e => Heap.get?_push_of_some _ e, turn_list a _, ⟨_, Heap.get?_push_size _ rfl, rfl, rfl⟩, fun b hb => ?_, q⟩
    have e : b = s1.heap.objs.size := by simpa using hb
    subst e
    exact I1.fpOk (Nat.le_refl _) (I1.hok.fresh (Nat.le_refl _))
end
/-! ### enumerate of a tuple -/
theorem meets_enumerate_newT (a : Addr) (items : Array Value) :
    Meets (Builtin.«enumerate.__new__» ⟨[.type "enumerate", .ref a], []⟩) (fun _ R s => s.heap.IsTuple a items ∧
      R (.ok (.ret (.ref (s.heap.push { cls := .type "tuple_iterator", data := .fields #[.ref a, .int 0 0] }).objs.size)))
        { s with heap := (s.heap.push { cls := .type "tuple_iterator", data := .fields #[.ref a, .int 0 0] }).push { cls := .type "enumerate", data := .fields #[.none, .bool false, .ref s.heap.objs.size, rawInt 0, .none, .none] } }) :=
  .of_wp fun prog w A R s h => by
    obtain ⟨hp, g, d, tk, os⟩ := s
    obtain ⟨h1, h⟩ := h
    have hsub := sub_enumerate
    have q1 : ∀ {A' : Around} {E : Value → Shared → Prop} {Q : Value → Shared → Prop}, Q (.ref hp.objs.size) ⟨hp.push { cls := .type "tuple_iterator", data := .fields #[.ref a, .int 0 0] }, g, d, tk, os⟩ → wpAny (model prog w) A' (pyIter (.ref a)) Q E ⟨hp, g, d, tk, os⟩ :=
      fun q => (begins_tuple a items).iter prog w _ _ ⟨hp, g, d, tk, os⟩ _ h1 q
    wp_walk using q1
    refine wpAny_stack_any fun st => wpAny_pure ?_
    split
    · rename_i c _ _ _ _ _
      cases (c == Value.type "enumerate")
      · wp_walk using q1
        exact ⟨_, rfl, h⟩
      · wp_walk using q1
        exact ⟨_, rfl, h⟩
    · wp_walk using q1
      exact ⟨_, rfl, h⟩
section
variable {prog : Program} {w : World} {A : Around} {E : Value → Shared → Prop} {s : Shared}
theorem call_enumerate_tup {a : Addr} {items : Array Value} {Q : Value → Shared → Prop} (h1 : s.heap.IsTuple a items)
    (h : ∀ h', IsEnum h' (s.heap.objs.size + 1) s.heap.objs.size 0 .none → h'.get? s.heap.objs.size = some { cls := .type "tuple_iterator", data := .fields #[.ref a, .int 0 0] } → h'.objs.size = s.heap.objs.size + 2 →
      (∀ b o, s.heap.get? b = some o → h'.get? b = some o) → Q (.ref (s.heap.objs.size + 1)) { s with heap := h' }) :
    wpAny (model prog w) A (call (.type "enumerate") [.ref a]) Q E s := by
  refine callType_new F.called_enumerate (by decide) (F.typeCall_enumerate_1 _) (F.newCall_enumerate_1 _) (fun obj => F.args_object_init_2 obj _) F.entry_enumerate_new
    (meets_enumerate_newT a items) ⟨h1, ?_⟩
  have hz : (s.heap.push { cls := .type "tuple_iterator", data := .fields #[.ref a, .int 0 0] }).objs.size = s.heap.objs.size + 1 := Heap.size_push ..
  show _ ∧ _
  rw [hz]
  have he : IsEnum ((s.heap.push { cls := .type "tuple_iterator", data := .fields #[.ref a, .int 0 0] }).push { cls := .type "enumerate", data := .fields #[.none, .bool false, .ref s.heap.objs.size, rawInt 0, .none, .none] }) (s.heap.objs.size + 1) s.heap.objs.size 0 .none := by
    have := Heap.get?_push_size (s.heap.push { cls := .type "tuple_iterator", data := .fields #[.ref a, .int 0 0] }) (o := { cls := .type "enumerate", data := .fields #[.none, .bool false, .ref s.heap.objs.size, rawInt 0, .none, .none] }) rfl
    rw [hz] at this; exact this
  refine ⟨⟨_, he, rfl⟩, h _ he (Heap.get?_push_of_some _ (Heap.get?_push_size _ rfl)) (by rw [Heap.size_push, hz]) fun b o x => Heap.get?_push_of_some _ (Heap.get?_push_of_some _ x)⟩
end
def IteT (K : PySem.W.Frag) (a : Addr) : It :=
  ⟨fun i H => ∃ (xs : List V) (x : V), SqT K H a xs ∧ xs[i]? = some x, fun i H v H' => ∃ T x, v = .ref T ∧ H T = none ∧ H' = upd H T (.tup [.int (i : Nat), x]) ∧ ∀ xs, SqT K H a xs → xs[i]? = some x, fun i H => ∃ xs : List V, SqT K H a xs ∧ xs.length ≤ i⟩
theorem turn_enumT {P : Program} {w : World} {K : PySem.W.Frag} {elts : List Expr} {kk : Nat} {tpos : Pos} (a e it : Addr) :
    Turn P w K (.Tuple elts kk tpos) (IteT K a) [e, it] e (fun i h => (∃ old, IsEnum h e it ((i : Nat) : Int) old) ∧ h.IsTupleIter it a i ∧ e ≠ it) where
  mem := by simp
  obj := fun i h st b hb => by
    obtain ⟨⟨old, he⟩, ⟨o, ho, hc, hd⟩, _⟩ := st
    have e' : b = e ∨ b = it := by simpa using hb
    rcases e' with z | z
    · rw [z]; exact ⟨_, he, fun v q => nomatch q⟩
    · rw [z]; exact ⟨o, ho, fun v q => by rw [hd] at q; cases q⟩
  keep := fun i h h' st k => let ⟨⟨old, he⟩, hi, hne⟩ := st; ⟨⟨old, k e (by simp) _ he⟩, hi.at fun o q => k it (by simp) o q, hne⟩
  item := by
    intro X hP hw hK hc i pins s σ H E I hf st hg
    subst hP hw hK
    obtain ⟨⟨old, he⟩, hit, hne⟩ := st
    obtain ⟨xs, x, hq, hx⟩ := hg
    obtain ⟨its, rv, p, hz⟩ := I.tuple hq
    have p' : s.heap.IsTuple a its.toArray := p
    obtain ⟨u, hu, ru⟩ := rv.get hx
    have hu' : its.toArray[i]? = some u := by simpa using hu
    have hel : e < s.heap.objs.size := Heap.lt_size he
    have hil : it < s.heap.objs.size := by obtain ⟨_, q, _⟩ := hit; exact Heap.lt_size q
    have hne2 : a ≠ it := fun z => by
      obtain ⟨o, ho, hc', hd⟩ := hit
      obtain ⟨o2, ho2, hc2, _⟩ := p'
      rw [z, ho] at ho2
      cases ho2
      rw [hc'] at hc2
      exact absurd (Value.type.inj hc2) (by decide)
    have hea : e ≠ a := fun z => by
      obtain ⟨o2, ho2, hc2, _⟩ := p'
      have he' : s.heap.get? a = some _ := z ▸ he
      rw [he'] at ho2
      cases ho2
      exact absurd (Value.type.inj hc2) (by decide)
    have hlt : i < its.toArray.size := by
      rcases Nat.lt_or_ge i its.toArray.size with h' | h'
      · exact h'
      · rw [Array.getElem?_eq_none h'] at hu'; cases hu'
    refine wpAny_pyNext_enum_itemD (A := X.A) (Draws.tuple (prog := X.prog) (w := X.w) (A := X.A.in1) (I.ok.hd hc) it a hne2 its.toArray) he ⟨hit, p'⟩ hlt hne (by simp [hne, hea]) fun x' h' tk hP ho hst' hT hsz hk => ?_
    obtain ⟨hit', _⟩ := hst'
    have ex : x' = u := by rw [hu'] at hP; exact (Option.some.inj hP).symm
    subst ex
    refine ⟨_, rfl, wpAny_letOwnedTupleGo_enum (s := { s with heap := h', toks := tk + 1 }) ho fun h'' he' sb => ?_⟩
    have hT2 : h''.get? s.heap.objs.size = some { cls := .type "tuple", data := .seq #[.int i tk, x'] } := (sb.2 _ (Nat.ne_of_gt hel)).trans hT
    have new : ObjOk X.prog X.w (upd H s.heap.objs.size (.tup [.int (i : Nat), x])) h'' s.heap.objs.size (.tup [.int (i : Nat), x]) :=
      ⟨by show 2 ≤ sizeLine; decide, [.int i tk, x'], .cons ⟨_, rfl⟩ (.cons ru .nil), ⟨_, hT2, rfl, _, rfl⟩⟩
    have I1 : Inv X pins σ (upd H s.heap.objs.size (.tup [.int (i : Nat), x])) { s with heap := h'', toks := tk + 1 } :=
      I.turnedNew (ch := [e, it]) (fun b ob hb q => (sb.2 b (fun z => hb (by simp [z]))).trans (hk b ob (fun z => hb (by simp [z])) (fun z => hb (by simp [z])) q)) hf (Nat.le_refl _) new
    refine ⟨.ref s.heap.objs.size, _, I1, rfl, ⟨_, x, rfl, I.hok.fresh (Nat.le_refl _), rfl, fun ys hy => by rw [I.tuple_inj hy hq]; exact hx⟩, ⟨⟨x', ?_⟩, hit'.at fun o q => (sb.2 it (Ne.symm hne)).trans q, hne⟩, fun b hb => ?_⟩
    · have e1 : ((i + 1 : Nat) : Int) = (i : Int) + 1 := by omega
      rw [e1]; exact he'
    · have hb' : b < s.heap.objs.size := by
        have e' : b = e ∨ b = it := by simpa using hb
        rcases e' with z | z
        · rw [z]; exact hel
        · rw [z]; exact hil
      rw [upd_ne (Nat.ne_of_lt hb')]
      exact (hf b hb).1
  done := by
    intro X hP hw hK hc i pins s σ H E I hf st hg
    subst hP hw hK
    obtain ⟨⟨old, he⟩, hit, hne⟩ := st
    obtain ⟨xs, hq, hx⟩ := hg
    obtain ⟨its, rv, p, hz⟩ := I.tuple hq
    have p' : s.heap.IsTuple a its.toArray := p
    obtain ⟨f0, f1, f2, f3, f4, f5⟩ := hf it (by simp)
    have hl := rv.length
    have hT : s.TypeIs (.ref e) "enumerate" := ⟨_, he, rfl⟩
    unfold pyNext
    refine wpAny_bind (wpAny_attempt (wpAny_callSpecial?_slot (name := Str.ofString "__next__") hT F.slot_enumerate_next
      (wpAny_call_entry F.slot_enumerate_next hT F.entry_enumerate_next ?_ (F.args_enumerate_next_1 _))))
    show wpAny _ _ (field (.ref e) 2 >>= _) _ _ _
    refine wpAny_bind (wpAny_field he rfl (x := .ref it) rfl ?_)
    refine wpAny_bind (wpAny_nextOf_tuple_end (I.ok.hd hc) hit p' (by simp; omega) fun h' x he' hx' => ?_)
    obtain ⟨o, ho, hc'⟩ := hx'
    refine wpAny_bind (wpAny_isInstance (T := "StopIteration") (b := true) ⟨o, ho, hc'⟩ isSubtype_stop ?_)
    exact wpAny_pure ⟨rfl, I.turned (t' := s.toks) (fun b o hb q => he' b o hb q) f0 f1 f3 f4 f5⟩
  self := fun A i s Q E st h => let ⟨⟨_, he⟩, _⟩ := st; wpAny_pyIter_enum he h
def IteB (K : PySem.W.Frag) (b : Bool) (a : Addr) : It := if b = true then IteT K a else Ite K a
def iEnumA (K : PySem.W.Frag) (ta : TA) : TI := fun σ H R => ta σ H fun vs H1 => ∃ b a xs, vs = [.ref a] ∧ SqB K H1 b a xs ∧ R (IteB K b a) H1
theorem pi_enumA {X : Cx} {e : Expr} {ta : TA} {p pos tpos : Pos} {elts : List Expr} {kk : Nat} (hg : Gl X "enumerate") (hm : X.mg "enumerate" = none) (ha : PA X [e] ta) (hs : starEach [e] X.env = [(false, eval e X.env)] := by rfl) :
    PI X (.Tuple elts kk tpos) (.Call (.Name "enumerate" p) [e] [] pos) (iEnumA X.K ta) := by
  refine ⟨fun pins s σ H R I h => ?_⟩
  refine Call_ (ld_blt I hg hm boot_enumerate (PyProof.Rows.callWith_type1 (thn (ha.run pos pins s σ H _ I h) fun us s1 ⟨vs, H1, I1, r1, q1⟩ => ?_) hs rfl))
  obtain ⟨b, a, xs, ex, hq, q⟩ := q1
  subst ex
  cases r1 with
  | cons r rr =>
    cases rr
    cases r
    cases b with
    | false =>
      obtain ⟨its, rv, p', hz⟩ := I1.list hq
      refine call_enumerate_list p'.isList fun h' he hit hsz hk => wpAny_pyIter_enum he ?_
      have I2 : Inv X pins σ H1 { s1 with heap := h' } := I1.kept (t' := s1.toks) hk
      refine ⟨s1.heap.objs.size + 1, [s1.heap.objs.size + 1, s1.heap.objs.size], _, _, H1, rfl, I2, turn_enum a (s1.heap.objs.size + 1) s1.heap.objs.size, ⟨⟨.none, he⟩, hit, Nat.succ_ne_self _⟩, fun b hb => ?_, q⟩
      have e' : b = s1.heap.objs.size + 1 ∨ b = s1.heap.objs.size := by simpa using hb
      have hle : s1.heap.objs.size ≤ b := by
        rcases e' with z | z
        · rw [z]; exact Nat.le_add_right _ _
        · rw [z]; exact Nat.le_refl _
      exact I1.fpOk hle (I1.hok.fresh hle)
    | true =>
      obtain ⟨its, rv, p', hz⟩ := I1.tuple hq
      refine call_enumerate_tup (show s1.heap.IsTuple a its.toArray from p') fun h' he hit hsz hk => wpAny_pyIter_enum he ?_
      have I2 : Inv X pins σ H1 { s1 with heap := h' } := I1.kept (t' := s1.toks) hk
      refine ⟨s1.heap.objs.size + 1, [s1.heap.objs.size + 1, s1.heap.objs.size], _, _, H1, rfl, I2, turn_enumT a (s1.heap.objs.size + 1) s1.heap.objs.size, ⟨⟨.none, he⟩, ⟨_, hit, rfl, rfl⟩, Nat.succ_ne_self _⟩, fun b hb => ?_, q⟩
      have e' : b = s1.heap.objs.size + 1 ∨ b = s1.heap.objs.size := by simpa using hb
      have hle : s1.heap.objs.size ≤ b := by
        rcases e' with z | z
        · rw [z]; exact Nat.le_add_right _ _
        · rw [z]; exact Nat.le_refl _
      exact I1.fpOk hle (I1.hok.fresh hle)
theorem walk_enumT {K : PySem.W.Frag} {a : Addr} {xs : List V} : Walk (IteT K a) xs.length (fun H => SqT K H a xs) (YPair (fun i => some (.int (i : Nat))) (fun i => xs[i]?)) :=
  ⟨fun i _ hi q => ⟨xs, xs[i], q, by simp [hi]⟩, fun _ q => ⟨xs, q, Nat.le_refl _⟩, fun i H x H' _ q y => by
    obtain ⟨T, x', e1, e2, e3, e4⟩ := y
    exact ⟨T, _, x', e1, e2, e3, rfl, e4 xs q⟩⟩
theorem walk_enumB {K : PySem.W.Frag} {b : Bool} {a : Addr} {xs : List V} : Walk (IteB K b a) xs.length (fun H => SqB K H b a xs) (YPair (fun i => some (.int (i : Nat))) (fun i => xs[i]?)) := by
  cases b with
  | true => exact walk_enumT
  | false => exact walk_enum
/-! ### x[::-1] -/
section
variable {prog : Program} {w : World} {A : Around} {E : Value → Shared → Prop} {s : Shared}
theorem adjust_rev (n : Nat) : Builtin.Slice.sliceAdjust none none (-1) (n : Int) = ((n : Int) - 1, -1) := by
  unfold Builtin.Slice.sliceAdjust
  have h1 : (-1 : Int) < 0 := by omega
  simp only [h1, if_true]
theorem places_rev (n : Nat) : Builtin.Slice.slicePlaces ((n : Int) - 1) (-1) (-1) = n := by
  unfold Builtin.Slice.slicePlaces
  have h1 : ¬ ((-1 : Int) > 0) := by omega
  simp only [h1, if_false]
  have h2 : (- -1 : Int) = 1 := by decide
  try simp only [h2, Int.ediv_one]
  split <;> omega
theorem sliceApplied_rev {sl : Addr} {vl vu vs : Value} {n : Nat} {Q : Int × Int × Nat → Shared → Prop} (hs : s.heap.IsSliceOf sl vl vu vs) (pl : IsPart vl none) (pu : IsPart vu none) (ps : IsPart vs (some (-1)))
    (h : Q ((n : Int) - 1, -1, n) s) : wpAny (model prog w) A (Builtin.Slice.sliceApplied (.ref sl) (pure (n : Int))) Q E s := by
  obtain ⟨os, hos, hcs, hds⟩ := id hs
  unfold Builtin.Slice.sliceApplied Builtin.Slice.sliceFields
  refine wpAny_bind (wpAny_bind (wpAny_field hos hds (x := vl) rfl (wpAny_bind (wpAny_field hos hds (x := vu) rfl (wpAny_bind (wpAny_field hos hds (x := vs) rfl (wpAny_pure ?_)))))))
  refine wpAny_bind (HT.slicePart_ ps ?_)
  show wpAny _ _ (if ((-1 : Int) == 0) = true then _ else _) _ _ s
  rw [if_neg (by decide)]
  refine wpAny_bind (HT.slicePart_ pl (wpAny_bind (HT.slicePart_ pu (wpAny_bind (wpAny_pure ?_)))))
  show wpAny _ _ (match Builtin.Slice.sliceAdjust none none (-1) (n : Int) with | (lo, hi) => pure (lo, (-1 : Int), Builtin.Slice.slicePlaces lo hi (-1))) _ _ s
  rw [adjust_rev n]
  show wpAny _ _ (pure ((n : Int) - 1, (-1 : Int), Builtin.Slice.slicePlaces ((n : Int) - 1) (-1) (-1))) _ _ s
  rw [places_rev]
  exact wpAny_pure h
theorem pick_rev (xs : Array Value) : ((List.range xs.size).filterMap fun (k : Nat) => xs[((xs.size : Int) - 1 + (k : Int) * (-1)).toNat]?).toArray = xs.toList.reverse.toArray := by
  have e : (List.range xs.size).map (fun (k : Nat) => ((xs.size : Int) - 1 + (k : Int) * (-1)).toNat) = (List.range xs.size).reverse := by
    rw [← PySem.W.krv_range]
    apply List.map_congr_left
    intro k hk
    omega
  have e2 : ((List.range xs.size).filterMap fun (k : Nat) => xs[((xs.size : Int) - 1 + (k : Int) * (-1)).toNat]?) = ((List.range xs.size).map (fun (k : Nat) => ((xs.size : Int) - 1 + (k : Int) * (-1)).toNat)).filterMap (fun j => xs[j]?) := by
    rw [List.filterMap_map] <;> rfl
  rw [e2, e, List.filterMap_reverse, PySem.W.krv_all]
theorem getItem_tuple_rev {t sl : Addr} {items : Array Value} {vl vu vs : Value} {Q : Value → Shared → Prop} (ht : IsTup s.heap t items) (hs : s.heap.IsSliceOf sl vl vu vs) (pl : IsPart vl none) (pu : IsPart vu none) (ps : IsPart vs (some (-1)))
    (h : Q (.ref s.heap.objs.size) { s with heap := s.heap.push { cls := .type "tuple", data := .seq items.toList.reverse.toArray } })
    (hsz : items.size ≤ sizeLine) : wpAny (model prog w) A (getItem (.ref t) (.ref sl)) Q E s := by
  have htake : sizeOk (.seq items.toList.reverse.toArray) := by
    show items.toList.reverse.toArray.size ≤ sizeLine
    rw [List.size_toArray, List.length_reverse, Array.length_toList]
    omega
  obtain ⟨os, hos, hcs, hds⟩ := id hs
  have hTs : s.TypeIs (.ref sl) "slice" := ⟨os, hos, hcs⟩
  unfold getItem
  try with_reducible refine wpAny_holding ?_
  first | refine wpAny_bind (wpAny_pure ?_) | skip
  refine wpAny_bind (wpAny_sequenceKey ht.typeIs (by decide) ?_)
  refine wpAny_bind (wpAny_callSpecial?_slot (name := Str.ofString "__getitem__") ht.typeIs PyProof.Rows.slot_tuple_getitem
    (wpAny_call_entry PyProof.Rows.slot_tuple_getitem ht.typeIs PyProof.Rows.entry_tuple_getitem ?_ (PyProof.Rows.args_tuple_getitem _ _)))
  show wpAny _ _ (Builtin.Tuple.tupleItemsOf (.ref t) >>= _) _ _ s
  refine wpAny_bind (PyProof.Rows.tupleItemsOf_ ht ?_)
  refine wpAny_bind (wpAny_typeOf hTs ?_)
  rw [if_pos (by decide)]
  refine wpAny_bind (sliceApplied_rev hs pl pu ps ?_)
  have hno : ¬ ((((items.size : Int) - 1) == 0 && (-1 : Int) == 1 && items.size == items.size) = true) := by
    intro q
    rw [Bool.and_eq_true, Bool.and_eq_true] at q
    exact absurd q.1.2 (by decide)
  show wpAny _ _ (if (((items.size : Int) - 1) == 0 && (-1 : Int) == 1 && items.size == items.size) = true then _ else _) _ _ s
  rw [if_neg hno, pick_rev]
  first
    | exact wpAny_bind (m := Builtin.Tuple.tupleExact _) (wpAny_newObj_type (wpAny_pure ⟨_, rfl, wpAny_pure h⟩) htake)
    | exact wpAny_bind (m := Builtin.Tuple.tupleExact _) (wpAny_newObj_type (wpAny_bind (wpAny_pure (wpAny_pure ⟨_, rfl, wpAny_pure h⟩))) htake)
    | exact wpAny_bind (wpAny_bind (m := Builtin.Tuple.tupleExact _) (wpAny_newObj_type (wpAny_pure (wpAny_pure ⟨_, rfl, wpAny_pure h⟩)) htake))
    | exact wpAny_bind (wpAny_bind (m := Builtin.Tuple.tupleExact _) (wpAny_newObj_type (wpAny_pure ⟨_, rfl, wpAny_pure h⟩) htake))
end
def tRevA (K : PySem.W.Frag) (te : TE) : TE := fun σ H Q => te σ H fun x H1 => ∃ b a xs, x = .ref a ∧ SqB K H1 b a xs ∧ ∀ p, H1 p = none → Q (.ref p) (upd H1 p (if b = true then .tup xs.reverse else .lst xs.reverse))
theorem pe_revA {X : Cx} {e : Expr} {te : TE} {k : Nat} {p1 p2 p3 pos : Pos} (he : PE X e te) : PE X (.Subscript e (.Slice none none (some (.UnaryOp .USub (.Constant (.int 1) k p1) p2)) p3) pos) (tRevA X.K te) := by
  refine ⟨fun pins s σ H Q I h => ?_⟩
  refine Subscript_ (thn (he.run pins s σ H _ I h) fun v s1 ⟨x, H1, I1, r1, q1⟩ => ?_)
  obtain ⟨b, a, xs, ex, hx, q⟩ := q1
  subst ex
  cases r1
  have hst : PO X (some (.UnaryOp .USub (.Constant (.int 1) k p1) p2)) (tPart (tUn (rU fun i => .int (-i)) (tC (.int 1)))) := po_some (pe_un un_neg pe_int)
  refine wpAny_Slice (thn (po_none.run pins s1 σ H1 (fun o H2 => o = none ∧ H2 = H1) I1 ⟨rfl, rfl⟩) fun vl s2 ⟨l, H2, I2, pl, el, e2⟩ => ?_)
  subst el e2
  refine thn (po_none.run pins s2 σ H2 (fun o H3 => o = none ∧ H3 = H2) I2 ⟨rfl, rfl⟩) fun vu s3 ⟨u, H3, I3, pu, eu, e3⟩ => ?_
  subst eu e3
  refine thn (hst.run pins s3 σ H3 (fun o H4 => o = some (-1) ∧ H4 = H3) I3 ⟨1, rfl, -1, rfl, rfl, rfl⟩) fun vs s4 ⟨o, H4, I4, ps, eo, e4⟩ => ?_
  subst eo e4
  have I5 : Inv X pins σ H4 { s4 with heap := s4.heap.push { cls := .type "slice", data := .fields #[vl, vu, vs] } } := I4.kept (t' := s4.toks) fun b ob q => Heap.get?_push_of_some _ q
  show wpAny (model X.prog X.w) X.A (subscriptTail e (.Slice none none (some (.UnaryOp .USub (.Constant (.int 1) k p1) p2)) p3) (.ref a) (.ref s4.heap.objs.size)) (EP X pins σ Q) X.xe { s4 with heap := s4.heap.push { cls := .type "slice", data := .fields #[vl, vu, vs] } }
  cases b with
  | false =>
    obtain ⟨its, r, ht, hz⟩ := I5.list hx
    have hlen := r.length
    refine tail_any (ops := [.ref a, .ref s4.heap.objs.size]) ht.isList.typeIs (PySem.slot_list_getitem.lookup) ?_ (by with_unfolding_all rfl)
    refine wpAny_getItem_list_slice ht.isList (Heap.IsSliceOf.new _ vl vu vs) pl pu ps (by decide) ?_ (by rw [List.size_toArray]; omega)
    rw [PySem.W.krv_pick]
    refine ⟨.ref _, _, I5.laid (t' := s4.toks) (o := .lst xs.reverse) (fun b ob q => Heap.get?_push_of_some _ q) (Nat.le_refl _) ?_, rfl, q _ (I5.hok.fresh (Nat.le_refl _))⟩
    exact ⟨by rw [List.length_reverse]; exact hz, _, 0, r.reverse, Heap.get?_push_size _ rfl⟩
  | true =>
    obtain ⟨its, r, ht, hz⟩ := I5.tuple hx
    have hlen := r.length
    refine tail_any (ops := [.ref a, .ref s4.heap.objs.size]) ht.typeIs (PyProof.Rows.slot_tuple_getitem.lookup) ?_ (by with_unfolding_all rfl)
    refine getItem_tuple_rev ht (Heap.IsSliceOf.new _ vl vu vs) pl pu ps ?_ (by rw [List.size_toArray]; omega)
    refine ⟨.ref _, _, I5.laid (t' := s4.toks) (o := .tup xs.reverse) (fun b ob q => Heap.get?_push_of_some _ q) (Nat.le_refl _) ?_, rfl, q _ (I5.hok.fresh (Nat.le_refl _))⟩
    exact ⟨by rw [List.length_reverse]; exact hz, its.reverse, r.reverse, IsTup.new _ _⟩
end TC
set_option maxHeartbeats 2000000
/-! == and != by an own __eq__, either answer; != of tuples whose items are equal. -/
namespace TC
open PySem PySem.Spec PyProof.Rows L2
/-- a class with __eq__ of its own and object's __ne__ -/
structure EqC (K : PySem.W.Frag) (C f : Addr) : Prop where
  cl : Cls K C
  mro : PySem.W.mroIn K C (.type "object") = some true
  eq : PySem.W.findIn K (.ref C) "__eq__" = some (some (.ref f))
  ne : PySem.W.findIn K (.ref C) "__ne__" = some (some (.builtin "object.__ne__"))
  isf : PySem.W.isFn K (.ref f) = true
section
variable {M : Model} {prog : Program} {w : World} {A : Around} {E : Value → Shared → Prop} {s : Shared} {K : PySem.W.Frag} {x C f L : Addr} {ox : Obj} {od : Option Obj} {b tb : Value} {h₀ : Heap} {m : Str → Option Value}
theorem ifBound_objNe {args : List Value} {Q : Option Value → Shared → Prop} (X : K.In s.heap) (I : PySem.W.InstAt s.heap x ox C od) (hs : PySem.W.findIn K (.ref C) "__ne__" = some (some (.builtin "object.__ne__")))
    (h : wpAny M A (call (.builtin "object.__ne__") (.ref x :: args)) (fun v => Q (some v)) E s) : wpAny M A (callSpecialIfBound? (.ref x) "__ne__" args) Q E s := by
  simp only [callSpecialIfBound?, bindSpecialIfBound?]
  refine wpAny_holding (wpAny_bind (wpAny_bind (wpAny_bind (I.type.here ((PySem.W.looks_findIn X hs).here ?_)))))
  refine wpAny_bind (wpAny_askSetting (wpAny_ite ?_))
  have fin : wpAny M A (call (.builtin "object.__ne__") ([.ref x] ++ args) >>= fun v => pure (some v)) Q E s := wpAny_bind (wpAny_mono h (fun v s' h' => wpAny_pure h') fun _ _ h' => h')
  split
  · exact wpAny_bind (wpAny_of_eq (F.cmp_object.ne.bind _) (wpAny_pure (by exact fin)))
  · exact wpAny_tryCatch (wpAny_bind (wpAny_of_eq (F.cmp_object.ne.bind _) (wpAny_pure (by exact fin))))
theorem objNe_own {Q : Fin → Shared → Prop} (hu : A.units < cLine) (X : K.In s.heap) (I : PySem.W.InstAt s.heap x ox C od) (T : EqC K C f)
    (hcall : wpAny (model prog w) A (call (.ref f) [.ref x, b]) (fun v s' => ∃ r, v = .bool r ∧ Q (.done (.ret (.bool (!r)))) s') E s) : wpAny (model prog w) A (Builtin.«object.__ne__» ⟨[.ref x, b], []⟩) Q E s := by
  unfold Builtin.«object.__ne__»
  repeat (first
    | with_reducible refine wpAny_cRoomFor hu ?_
    | (refine wpAny_bind (m := callSpecialIfBound? (.ref x) (Str.ofString "__eq__") [b])
        (PySem.W.ifBound_K X I T.eq T.isf (wpAny_mono hcall (fun r s' hr => by
          obtain ⟨b, rfl, hq⟩ := hr
          repeat (first | exact hq | exact wpAny_pure hq | exact wpAny_truthy_bool hq | (refine wpAny_bind (m := truthy (.bool _)) (wpAny_truthy_bool ?_)) | wp_step)) fun _ _ e => e)))
    | wp_step)
theorem ne_K {Q : Value → Shared → Prop} (hu : A.units + 1 < cLine) (X : K.In s.heap) (I : PySem.W.InstAt s.heap x ox C od) (T : EqC K C f) (hb : PySem.W.Looks (model prog w) s.heap (typeOf b) tb) (hn : PySem.W.notFirst K C tb = true)
    (h : wpAny (model prog w) A.in1 (call (.ref f) [.ref x, b]) (fun v s' => ∃ r, v = .bool r ∧ Q (.bool (!r)) s') E s) : wpAny (model prog w) A (richCompare .NotEq (.ref x) b) Q E s := by
  have one : wpAny (model prog w) A (tryCompare (.ref x) "__ne__" b) (fun r s' => ∃ v, r = some v ∧ Q v s') E s := by
    unfold tryCompare
    refine wpAny_bind (ifBound_objNe X I T.ne (wpAny_call (codeAny_call_builtin F.cmp_object.ne.plain F.cmpEntry_ne (PySem.W.check_slot F.cmpKind_ne F.cmpSplit_ne (I.type.andThen (PySem.W.looks_mroIn X T.mro)) (F.cmpArgs_ne _ _) (objNe_own (A := A.in1) hu X I T (wpAny_mono h (fun v s' hv => ?_) fun _ _ e => e))))))
    obtain ⟨r, rfl, hq⟩ := hv
    first
      | exact ⟨r, rfl, wpAny_pure ⟨_, rfl, hq⟩⟩
      | exact ⟨r, rfl, ⟨_, rfl, hq⟩⟩
      | exact ⟨r, rfl, wpAny_pure (wpAny_pure ⟨_, rfl, hq⟩)⟩
  unfold richCompare
  simp only [oneThing_ref]
  refine wpAny_holding (wpAny_bind (wpAny_cRoomFor (Nat.lt_of_succ_lt hu) ?_))
  rw [cmpInfo_NotEq]
  dsimp only
  refine wpAny_bind (I.type.here (wpAny_bind (hb.here ?_)))
  split
  · rename_i q
    have e : PySem.W.subIn K tb (.ref C) = some false := by
      rcases Bool.or_eq_true_iff.mp hn with e | e
      · rw [beq_iff_eq.mp e] at q; simp at q
      · exact beq_iff_eq.mp e
    refine wpAny_bind ((PySem.W.looks_subIn X e).here ?_)
    simp only [Bool.false_eq_true, if_false]
    refine wpAny_bind (wpAny_mono one (fun r s' z => ?_) fun _ _ e => e)
    obtain ⟨v, rfl, hq⟩ := z
    exact wpAny_pure hq
  · refine wpAny_bind (wpAny_pure ?_)
    simp only [Bool.false_eq_true, if_false]
    refine wpAny_bind (wpAny_mono one (fun r s' z => ?_) fun _ _ e => e)
    obtain ⟨v, rfl, hq⟩ := z
    exact wpAny_pure hq
end
section
variable {X : Cx} {CX : CXT} {n : Nat} {C f : Addr} {fd : FuncData} {ps : List Str} {sp : Sp} {E : XK}
/-- x == y, x != y by x's own __eq__ (of a class told at f); y any instance -/
def rOwn (K : PySem.W.Frag) (C : Addr) (sp : Sp) (E : XK) (neg : Bool) : R2 := fun x y H Q => ∃ a b dx dy D fs gs, x = .ref a ∧ y = .ref b ∧ H a = some (.ins C dx fs) ∧ H b = some (.ins D dy gs) ∧ Cls K D ∧ PySem.W.notFirst K C (.ref D) = true ∧
  sp [x, y] H (fun v H' => ∃ r, v = .bl r ∧ Q (.bl (if neg = true then !r else r)) H') E
theorem op_eqOwn (F : FnOk X.prog X.w X.K X.mg X.base CX n f fd ps sp) (T : EqC X.K C f) (hr : Room n X.A) (hb : Binds X.K fd ps []) (hx : Passes CX X E) : OpR X (compareOp .Eq) (rOwn X.K C sp E false) := by
  intro pins s σ H x y v u Q I rx ry h
  obtain ⟨a, b, dx, dy, D, fs, gs, rfl, rfl, ha, hb', cD, hn, hsp⟩ := h
  cases rx
  cases ry
  obtain ⟨mA, J, _⟩ := ins_get I.hok ha
  obtain ⟨mB, J', _⟩ := ins_get I.hok hb'
  obtain ⟨od, J, _⟩ := J.look
  obtain ⟨od', J', _⟩ := J'.look
  obtain ⟨m, hF⟩ := I.fr
  show wpAny (model X.prog X.w) X.A (richCompare .Eq _ _) (EP X pins σ Q) X.xe s
  refine PySem.W.cmp_K (op := .Eq) (tb := .ref D) hr.units0 hF I.ok.mod.kin J J'.type hn T.eq T.isf ?_
  have hl := F.len _ _ _ _ hsp
  have r2 : Vals [V.ref a, V.ref b] [Value.ref a, Value.ref b] := .cons rfl (.cons rfl .nil)
  refine wpAny_call (codeAny_mono (F.run X.A X.stack s H ⟨[.ref a, .ref b], []⟩ [.ref a, .ref b] [.ref a, .ref b] _ E hr I.env0 (by
    have := hb s [.ref a, .ref b] I.kIn (by simpa using hl)
    simpa using this) r2 hsp) fun r s' hq => ?_)
  cases r with
  | error e => exact hx pins σ H s e s' I hq
  | ok fl =>
    cases fl with
    | ret w =>
      obtain ⟨z, H', I', rz, r, ez, q⟩ := I.after hq
      subst ez
      cases rz
      exact ⟨.bl r, H', I', rfl, q⟩
    | next => exact False.elim hq
    | brk => exact False.elim hq
    | cont => exact False.elim hq
theorem op_neOwn (F : FnOk X.prog X.w X.K X.mg X.base CX n f fd ps sp) (T : EqC X.K C f) (hr : Room (n + 1) X.A) (hb : Binds X.K fd ps []) (hx : Passes CX X E) : OpR X (compareOp .NotEq) (rOwn X.K C sp E true) := by
  intro pins s σ H x y v u Q I rx ry h
  obtain ⟨a, b, dx, dy, D, fs, gs, rfl, rfl, ha, hb', cD, hn, hsp⟩ := h
  cases rx
  cases ry
  obtain ⟨mA, J, _⟩ := ins_get I.hok ha
  obtain ⟨mB, J', _⟩ := ins_get I.hok hb'
  obtain ⟨od, J, _⟩ := J.look
  obtain ⟨od', J', _⟩ := J'.look
  show wpAny (model X.prog X.w) X.A (richCompare .NotEq _ _) (EP X pins σ Q) X.xe s
  refine ne_K hr.in1.units0 I.kIn J T J'.type hn ?_
  have hl := F.len _ _ _ _ hsp
  have r2 : Vals [V.ref a, V.ref b] [Value.ref a, Value.ref b] := .cons rfl (.cons rfl .nil)
  have e0 : Env0 X.prog X.w X.K X.mg X.base X.A.in1 X.stack s H := by
    have e := I.env0
    exact ⟨e.frames, e.mod, e.bs, e.bsz, e.funs, e.frf, e.hok, e.bare⟩
  refine wpAny_call (codeAny_mono (F.run X.A.in1 X.stack s H ⟨[.ref a, .ref b], []⟩ [.ref a, .ref b] [.ref a, .ref b] _ E hr.in1 e0 (by
    have := hb s [.ref a, .ref b] I.kIn (by simpa using hl)
    simpa using this) r2 hsp) fun r s' hq => ?_)
  cases r with
  | error e => exact hx pins σ H s e s' I hq
  | ok fl =>
    cases fl with
    | ret w =>
      obtain ⟨z, H', I', rz, r, ez, q⟩ := I.after hq
      subst ez
      cases rz
      exact ⟨r, rfl, .bl (!r), H', I', rfl, q⟩
    | next => exact False.elim hq
    | brk => exact False.elim hq
    | cont => exact False.elim hq
end
/-! ### != of two tuples whose items are all equal -/
section
variable {prog : Program} {w : World} {A : Around} {R : Result → Shared → Prop}
theorem tuple_neG (l b : Addr) (items items2 : Array Value) (n n2 : Nat) (dd dd2 : Option Addr) (sl sl2 : Array (Option Value)) (hsz : items.size = items2.size) (I : Nat → Shared → Prop)
    (turn : ∀ i (h1 : i < items.size) (h2 : i < items2.size) s, I i s → wpAny (model prog w) A.in1 (eqBool items[i] items2[i]) (fun r s' => r = true ∧ I (i + 1) s') (fun e s' => R (.error e) s') s)
    (fin : ∀ s, I items.size s → R (.ok (.ret (.bool false))) s) {s : Shared} (hl1 : s.heap.get? l = some { cls := .type "tuple", dict := dd, data := .seq items n, slots := sl }) (hb1 : s.heap.get? b = some { cls := .type "tuple", dict := dd2, data := .seq items2 n2, slots := sl2 }) (h : I 0 s) :
    wpAny (model prog w) A.in1 (Builtin.«tuple.__ne__» ⟨[.ref l, .ref b], []⟩) (GQ.FinOf prog w A R) (fun e s' => R (.error e) s') s := by
  have f2 := AutoSeq1.sub_tuple_tuple
  have hZ : (items.toList.zip items2.toList).length = items.size := by simp [hsz]
  have h0 := h
  obtain ⟨hp, g, d, tk, os⟩ := s
  wp_walk using AutoSeq1.wpAny_loadPart' hl1, AutoSeq1.wpAny_loadPart' hb1, wpAny_forIn_list _ (fun rest b s' => b.1 = none ∧ ∃ i, rest = (items.toList.zip items2.toList).drop i ∧ i ≤ items.size ∧ I i s') _
  case turn =>
    rintro ⟨y, x⟩ rest b s' ⟨hb', i, hz, hi, hI⟩
    have hlt : i < (items.toList.zip items2.toList).length := by
      rcases Nat.lt_or_ge i (items.toList.zip items2.toList).length with h' | h'
      · exact h'
      · rw [List.drop_of_length_le h'] at hz; cases hz
    have h1 : i < items.size := hZ ▸ hlt
    have h2 : i < items2.size := hsz ▸ h1
    rw [List.drop_eq_getElem_cons hlt] at hz
    injection hz with hyx hrest
    have hy : y = items[i] := by have := congrArg Prod.fst hyx; simpa using this
    have hx : x = items2[i] := by have := congrArg Prod.snd hyx; simpa using this
    subst hy hx
    refine wpAny_bind (wpAny_mono (turn i h1 h2 s' hI) (fun r s2 q2 => ?_) fun _ _ x => x)
    obtain ⟨hr, q2⟩ := q2
    subst hr
    wp_walk
    exact ⟨rfl, i + 1, hrest, h1, q2⟩
  case fin =>
    rintro ⟨b1, b2⟩ s' ⟨hb', i, hz, hi, hI⟩
    simp only at hb'
    subst hb'
    have hge : items.size ≤ i := by
      rcases Nat.lt_or_ge i (items.toList.zip items2.toList).length with h' | h'
      · rw [List.drop_eq_getElem_cons h'] at hz; cases hz
      · exact hZ ▸ h'
    have hi' : i = items.size := by omega
    have hR : R (.ok (.ret (.bool false))) s' := fin s' (hi' ▸ hI)
    wp_walk
    simpa [Builtin.Tuple.tupleCompareSizes, hsz] using hR
  case h =>
    exact ⟨rfl, 0, rfl, Nat.zero_le _, h0⟩
theorem rc_tupNeG {E : Value → Shared → Prop} {s : Shared} {l b : Addr} {items items2 : Array Value} {Q : Value → Shared → Prop} (hsz : items.size = items2.size) (hu : A.units < cLine) (I : Nat → Shared → Prop)
    (hl : s.heap.IsTuple l items) (hb : s.heap.IsTuple b items2)
    (turn : ∀ i (h1 : i < items.size) (h2 : i < items2.size) s, I i s → wpAny (model prog w) A.in1 (eqBool items[i] items2[i]) (fun r s' => r = true ∧ I (i + 1) s') E s)
    (fin : ∀ s, I items.size s → Q (.bool false) s) (h : I 0 s) : wpAny (model prog w) A (richCompare .NotEq (.ref l) (.ref b)) Q E s := by
  obtain ⟨⟨cls, dd, data, sl⟩, ho, hc, n, hd⟩ := id hl
  obtain ⟨⟨cls2, dd2, data2, sl2⟩, ho2, hc2, n2, hd2⟩ := id hb
  simp only at hc hd hc2 hd2
  subst hc hd hc2 hd2
  refine wpAny_richCompare_same_room (op := .NotEq) ⟨_, ho, rfl⟩ ⟨_, ho2, rfl⟩ F.slot_tuple_ne (GQ.call_here F.slot_tuple_ne ⟨_, ho, rfl⟩ F.entry_tuple_ne (F.args_tuple_ne_2 _ _) ?_) hu
  exact tuple_neG (R := wants (fun v s' => v ≠ .notImplemented ∧ Q v s') E) l b items items2 n n2 dd dd2 sl sl2 hsz I turn (fun s' q => ⟨(fun x => nomatch x), fin s' q⟩) ho ho2 h
end
section
variable {X : Cx} {n : Nat} {D : Eqv}
def rNeT (K : PySem.W.Frag) (D : Eqv) : R2 := fun x y H Q => DTup K D x y H ∧ ∀ H', L2.Ext H H' → Q (.bl false) H'
theorem op_neT (hD : Mon D) (h : EqG X n D) (hr : Room (n + 1) X.A) : OpR X (compareOp .NotEq) (rNeT X.K D) := by
  intro pins s σ H x y v u Q I rx ry hq
  obtain ⟨⟨a, b, xs, ys, rfl, rfl, ha, hb, p⟩, q⟩ := hq
  cases rx
  cases ry
  have sb : Sub X (n + 1) X.A := ⟨hr, rfl⟩
  obtain ⟨its, r, e, z⟩ := I.tuple ha
  obtain ⟨its2, r2, e2, z2⟩ := I.tuple hb
  have hsz : its.toArray.size = its2.toArray.size := by rw [List.size_toArray, List.size_toArray, ← r.length, ← r2.length]; exact p.1
  show wpAny (model X.prog X.w) X.A (richCompare .NotEq _ _) (EP X pins σ Q) X.xe s
  refine rc_tupNeG hsz sb.room.units0 (fun _ s' => LoopI X pins σ H s') e e2 (fun i h1 h2 s' q => turnG hD h sb p r r2 i h1 h2 s' q) (fun s' z => ?_) ⟨H, I, L2.Ext.rfl'⟩
  obtain ⟨H', I', e'⟩ := z
  exact ⟨.bl false, H', I', rfl, q H' e'⟩
end
/-- a promise told weaker -/
theorem FnOk.imp {P : Program} {w : World} {K : PySem.W.Frag} {mg : Str → Option Value} {base : Heap} {CX : CXT} {k : Nat} {f : Addr} {fd : FuncData} {ps : List Str} {sp sp' : Sp} (F : FnOk P w K mg base CX k f fd ps sp) (h : ∀ vs H Q E, sp' vs H Q E → sp vs H Q E) : FnOk P w K mg base CX k f fd ps sp' :=
  ⟨fun vs H Q E q => F.len vs H Q E (h vs H Q E q), fun A outer s H args us vs Q E hr e hb r q => F.run A outer s H args us vs Q E hr e hb r (h vs H Q E q)⟩
end TC
set_option maxHeartbeats 2000000
/-! Data in the abstract heap; readings of common words (Ev style); defs by name. -/
namespace TC
open PySem PySem.Spec PyProof.Rows L2 Evl
section
variable {K : PySem.W.Frag} {H H' : Hp}
mutual
theorem Dp.ex (e : Ex H H') : ∀ {d : PyData} {v : V}, Dp K H v d → Dp K H' v d
  | _, _, .non => .non
  | _, _, .bl b => .bl b
  | _, _, .int i => .int i
  | _, _, .str x => .str x
  | _, _, .lst h a => .lst (ex_l e h) (DpAll.ex e a)
  | _, _, .tup h a => .tup (ex_t e h) (DpAll.ex e a)
theorem DpAll.ex (e : Ex H H') : ∀ {ds : List PyData} {vs : List V}, DpAll K H vs ds → DpAll K H' vs ds
  | _, _, .nil => .nil
  | _, _, .cons h a => .cons (Dp.ex e h) (DpAll.ex e a)
end
theorem DpAll.length {vs : List V} : ∀ {ds : List PyData}, DpAll K H vs ds → vs.length = ds.length := by
  induction vs with
  | nil => intro ds h; cases h; rfl
  | cons v vs ih => intro ds h; cases h with | cons a b => rw [List.length_cons, List.length_cons, ih b]
theorem DpAll.get {vs : List V} : ∀ {ds : List PyData}, DpAll K H vs ds → ∀ {i : Nat} {v : V}, vs[i]? = some v → ∃ d, ds[i]? = some d ∧ Dp K H v d := by
  induction vs with
  | nil => intro ds h i v e; simp at e
  | cons v vs ih =>
    intro ds h i w e
    cases h with
    | cons a b =>
      cases i with
      | zero => simp at e; subst e; exact ⟨_, rfl, a⟩
      | succ i => simp at e; obtain ⟨d, h1, h2⟩ := ih b e; exact ⟨d, by simpa using h1, h2⟩
theorem DpAll.ints {ns : List Int} : DpAll K H (ns.map V.int) (ns.map PyData.int) := by
  induction ns with
  | nil => exact .nil
  | cons n ns ih => exact .cons (.int n) ih
theorem DpAll.ints_inv {ns : List Int} : ∀ {vs : List V}, DpAll K H vs (ns.map PyData.int) → vs = ns.map V.int := by
  induction ns with
  | nil => intro vs h; cases h; rfl
  | cons n ns ih =>
    intro vs h
    cases h with
    | cons a b => cases a; rw [ih b]; rfl
theorem DpAll.snoc {vs : List V} {ds : List PyData} {v : V} {d : PyData} (h : DpAll K H vs ds) (h2 : Dp K H v d) : DpAll K H (vs ++ [v]) (ds ++ [d]) := by
  induction vs generalizing ds with
  | nil => cases h; exact .cons h2 .nil
  | cons w vs ih => cases h with | cons a b => exact .cons a (ih b)
theorem DpAll.append {vs ws : List V} {ds es : List PyData} (h : DpAll K H vs ds) (h2 : DpAll K H ws es) : DpAll K H (vs ++ ws) (ds ++ es) := by
  induction vs generalizing ds with
  | nil => cases h; exact h2
  | cons w vs ih => cases h with | cons a b => exact .cons a (ih b)
theorem DpAll.set {vs : List V} {ds : List PyData} {v : V} {d : PyData} {i : Nat} (h : DpAll K H vs ds) (h2 : Dp K H v d) : DpAll K H (vs.set i v) (ds.set i d) := by
  induction vs generalizing ds i with
  | nil => cases h; exact .nil
  | cons w vs ih =>
    cases h with
    | cons a b =>
      cases i with
      | zero => exact .cons h2 b
      | succ i => exact .cons a (ih b)
theorem DpAll.take {vs : List V} {ds : List PyData} {n : Nat} (h : DpAll K H vs ds) : DpAll K H (vs.take n) (ds.take n) := by
  induction vs generalizing ds n with
  | nil => cases h; simp; exact .nil
  | cons w vs ih =>
    cases h with
    | cons a b =>
      cases n with
      | zero => exact .nil
      | succ n => exact .cons a (ih b)
theorem DpAll.rev {vs : List V} {ds : List PyData} (h : DpAll K H vs ds) : DpAll K H vs.reverse ds.reverse := by
  induction vs generalizing ds with
  | nil => cases h; exact .nil
  | cons w vs ih => cases h with | cons a b => rw [List.reverse_cons, List.reverse_cons]; exact DpAll.snoc (ih b) a
/-- a list (false), a tuple (true) -/
def seqD (b : Bool) (ds : List PyData) : PyData := if b = true then .tuple ds else .list ds
theorem Dp.seq {b : Bool} {a : Addr} {vs : List V} {ds : List PyData} (h : SqB K H b a vs) (x : DpAll K H vs ds) : Dp K H (.ref a) (seqD b ds) := by
  cases b with
  | true => exact .tup h x
  | false => exact .lst h x
theorem Dp.seq_inv {b : Bool} {v : V} {ds : List PyData} (h : Dp K H v (seqD b ds)) : ∃ a vs, v = .ref a ∧ SqB K H b a vs ∧ DpAll K H vs ds := by
  cases b with
  | true => cases h with | tup h x => exact ⟨_, _, rfl, h, x⟩
  | false => cases h with | lst h x => exact ⟨_, _, rfl, h, x⟩
/-! ### types -/
def tyOf : PyData → String
  | .none => "NoneType"
  | .bool _ => "bool"
  | .int _ => "int"
  | .str _ => "str"
  | .list _ => "list"
  | .tuple _ => "tuple"
  | .dict _ => "dict"
theorem TyX.ex {x : V} {t : Value} (e : Ex H H') (h : TyX K H x t) : TyX K H' x t := by
  cases h with
  | base b =>
    cases b with
    | non => exact .base .non
    | bl y => exact .base (.bl y)
    | int i => exact .base (.int i)
    | str y => exact .base (.str y)
    | flt y => exact .base (.flt y)
    | lst ea => exact .base (.lst (e _ _ ea))
    | frz ea => exact .base (.frz (e _ _ ea))
    | tup ea => exact .base (.tup (e _ _ ea))
    | dK ea => exact .base (.dK (e _ _ ea))
    | dT ea => exact .base (.dT (e _ _ ea))
    | ins ea cl ha hn htk hm => exact .base (.ins (e _ _ ea) cl ha hn htk hm)
  | byt b => exact .byt b
  | set ea => exact .set (e _ _ ea)
  | kList a b => exact .kList a b
  | kTuple a b => exact .kTuple a b
  | kDict a b => exact .kDict a b
  | fTuple ea => exact .fTuple (e _ _ ea)
  | fDict ea => exact .fDict (e _ _ ea)
theorem TyX.l {a : Addr} {xs : List V} (h : SqL K H a xs) : TyX K H (.ref a) (.type "list") := by
  rcases h with (h | ⟨o, h⟩) | ⟨o, its, n, h, c, _⟩
  · exact .base (.lst h)
  · exact .base (.frz h)
  · exact .kList h c
theorem TyX.t {a : Addr} {xs : List V} (h : SqT K H a xs) : TyX K H (.ref a) (.type "tuple") := by
  rcases h with (h | ⟨o, h⟩) | ⟨o, its, n, h, c, _⟩
  · exact .base (.tup h)
  · exact .fTuple h
  · exact .kTuple h c
theorem Dp.tyX {v : V} {d : PyData} (h : Dp K H v d) : TyX K H v (.type (tyOf d)) := by
  cases h with
  | non => exact .base .non
  | bl b => exact .base (.bl b)
  | int i => exact .base (.int i)
  | str x => exact .base (.str x)
  | lst h _ => exact TyX.l h
  | tup h _ => exact TyX.t h
end
/-! ### readings -/
section
variable {K : PySem.W.Frag} {σ : L2.St} {H H' : Hp} {ta tb te tx tl : TE} {t u : TT} {x y z v : V} {D : Ends} {tu tw tz : TS} {g : TG}
theorem ev_isi {c : V} {tt uu : Value} {b : Bool} (h : Ev ta σ H x) (hc : ClsV c uu) (ty : TyX K H x tt) (hk : PySem.W.kitOne K tt uu = some b) : Ev (tCB (rIsi K) (tCons ta (tCons (tC c) tNil))) σ H (.bl b) := fun H1 e Q q =>
  h H1 e _ fun H2 e2 => ⟨x, c, tt, uu, b, rfl, hc, TyX.ex (e.trans e2) ty, hk, q H2 e2⟩
/-- isinstance(x, (c1, c2)) -/
theorem ev_isiT {c1 c2 : V} {tt u1 u2 : Value} {b : Bool} (h : Ev ta σ H x) (h1 : ClsV c1 u1) (h2 : ClsV c2 u2) (ty : TyX K H x tt) (hk : PySem.W.kitAny K tt [u1, u2] = some b) :
    Ev (tCB (rIsiT K) (tCons ta (tCons (tTup (tCons (tC c1) (tCons (tC c2) tNil))) tNil))) σ H (.bl b) := fun H1 e Q q =>
  h H1 e _ fun H2 e2 => ⟨by show 2 ≤ sizeLine; decide, fun p hp => ⟨x, p, [c1, c2], tt, [u1, u2], b, rfl, upd_same, .cons h1 (.cons h2 .nil), TyX.ex ((e.trans e2).trans (Ex.new hp)) ty, hk, q _ (e2.trans (Ex.new hp))⟩⟩
def rLenA (K : PySem.W.Frag) : List V → Hp → VK → Prop := fun xs H Q => ∃ p ys, xs = [.ref p] ∧ (SqL K H p ys ∨ SqT K H p ys) ∧ Q (.int ys.length) H
theorem ev_lenA {b : Bool} {p : Addr} {xs : List V} (h : Ev ta σ H (.ref p)) (hx : SqB K H b p xs) : Ev (tCB (rLenA K) (tCons ta tNil)) σ H (.int (xs.length : Int)) := fun H1 e Q q =>
  h H1 e _ fun H2 e2 => ⟨p, xs, rfl, (hx.ex (e.trans e2)).or, q H2 e2⟩
def rIxA (K : PySem.W.Frag) : R2 := fun x y H Q => rIxL K x y H Q ∨ rIxT K x y H Q ∨ rIxS x y H Q
theorem rv_ixA {b : Bool} {p : Addr} {xs : List V} {i : Int} (h : SqB K H b p xs) (ha : atI xs i = some v) : RV (rIxA K) (.ref p) (.int i) H v := fun H1 e _ q => by
  cases b with
  | true => exact .inr (.inl ⟨p, xs, i, v, rfl, rfl, ex_t e h, ha, q H1 (Ex.refl H1)⟩)
  | false => exact .inl ⟨p, xs, i, v, rfl, rfl, ex_l e h, ha, q H1 (Ex.refl H1)⟩
theorem ev_ixA {b : Bool} {p : Addr} {xs : List V} {i : Int} (ha : Ev ta σ H (.ref p)) (hb : Ev tb σ H (.int i)) (h : SqB K H b p xs) (hv : atI xs i = some v) : Ev (tOp (rIxA K) ta tb) σ H v := ev_op ha hb (rv_ixA h hv)
theorem s_forA {b : Bool} {a : Addr} {xs : List V} (h : Ev tl σ H (.ref a)) (hx : SqB K H b a xs) (Pv : Nat → L2.St → Hp → Prop) (h0 : ∀ H1, Ex H H1 → Pv 0 σ H1) (hl : ∀ i σ' H', i ≤ xs.length → Pv i σ' H' → SqB K H' b a xs)
    (hs : ∀ i x σ' H', xs[i]? = some x → Pv i σ' H' → g x σ' H' fun σ2 H2 => tu { D with nx := Pv (i + 1), ct := Pv (i + 1), bk := D.nx } σ2 H2) (hd : ∀ σ' H', Pv xs.length σ' H' → D.nx σ' H') : tFor (iAny K tl) g tu D σ H :=
  h H (Ex.refl H) _ fun H1 e => ⟨b, a, rfl, ⟨xs, hx.ex e⟩, for_it walk_B Pv (h0 H1 e) hl (fun i x σ' H' H'' _ p y => by obtain ⟨rfl, y2⟩ := y; exact hs i x σ' H'' y2 p) hd⟩
theorem q_forA {b : Bool} {a : Addr} {xs : List V} (h : Ev tl σ H (.ref a)) (hx : SqB K H b a xs) (Pv : Nat → L2.St → Hp → Prop) (h0 : ∀ H1, Ex H H1 → Pv 0 σ H1) (hl : ∀ i σ' H', i ≤ xs.length → Pv i σ' H' → SqB K H' b a xs)
    (hs : ∀ i x σ' H', xs[i]? = some x → Pv i σ' H' → g x σ' H' fun σ2 H2 => tu { D with nx := Pv (i + 1), ct := Pv (i + 1), bk := tz D } σ2 H2) (hd : ∀ σ' H', Pv xs.length σ' H' → tz D σ' H') : tSeq (tFor (iAny K tl) g tu) tz D σ H :=
  s_forA (D := { D with nx := tz D }) h hx Pv h0 hl hs hd
/-- the walked thing told by its reading: x[::-1] of a list or a tuple -/
theorem s_forRev {b : Bool} {a : Addr} {xs : List V} (h : Ev tl σ H (.ref a)) (hx : SqB K H b a xs) (Pv : Addr → Nat → L2.St → Hp → Prop) (h0 : ∀ p H1, H p = none → Ex H H1 → SqB K H1 b p xs.reverse → Pv p 0 σ H1) (hl : ∀ p i σ' H', i ≤ xs.length → Pv p i σ' H' → SqB K H' b p xs.reverse)
    (hs : ∀ p i x σ' H', xs.reverse[i]? = some x → Pv p i σ' H' → g x σ' H' fun σ2 H2 => tu { D with nx := Pv p (i + 1), ct := Pv p (i + 1), bk := D.nx } σ2 H2) (hd : ∀ p σ' H', Pv p xs.length σ' H' → D.nx σ' H') : tFor (iAny K (tRevA K tl)) g tu D σ H :=
  h H (Ex.refl H) _ fun H1 e => ⟨b, a, xs, rfl, hx.ex e, fun p hp => by
    have sq : SqB K (upd H1 p (if b = true then .tup xs.reverse else .lst xs.reverse)) b p xs.reverse := by
      cases b with
      | true => exact st_of upd_same
      | false => exact sq_of upd_same
    refine ⟨b, p, rfl, ⟨_, sq⟩, for_it walk_B (Pv p) (h0 p _ (fresh_back e hp) (e.trans (Ex.new hp)) sq) (fun i σ' H' hi q => hl p i σ' H' (by rw [List.length_reverse] at hi; exact hi) q) (fun i x σ' H' H'' _ q y => by obtain ⟨rfl, y2⟩ := y; exact hs p i x σ' H'' y2 q) (fun σ' H' q => hd p σ' H' (by rw [List.length_reverse] at q; exact q))⟩⟩
theorem q_forRev {b : Bool} {a : Addr} {xs : List V} (h : Ev tl σ H (.ref a)) (hx : SqB K H b a xs) (Pv : Addr → Nat → L2.St → Hp → Prop) (h0 : ∀ p H1, H p = none → Ex H H1 → SqB K H1 b p xs.reverse → Pv p 0 σ H1) (hl : ∀ p i σ' H', i ≤ xs.length → Pv p i σ' H' → SqB K H' b p xs.reverse)
    (hs : ∀ p i x σ' H', xs.reverse[i]? = some x → Pv p i σ' H' → g x σ' H' fun σ2 H2 => tu { D with nx := Pv p (i + 1), ct := Pv p (i + 1), bk := tz D } σ2 H2) (hd : ∀ p σ' H', Pv p xs.length σ' H' → tz D σ' H') : tSeq (tFor (iAny K (tRevA K tl)) g tu) tz D σ H :=
  s_forRev (D := { D with nx := tz D }) h hx Pv h0 hl hs hd
/-- for i, x in enumerate(l) -/
theorem s_forEn {b : Bool} {a : Addr} {xs : List V} {ta : TA} {i j : Nat} (h : EvA ta σ H [.ref a]) (hx : SqB K H b a xs) (Pv : Nat → L2.St → Hp → Prop) (h0 : ∀ H1, Ex H H1 → Pv 0 σ H1) (hl : ∀ i σ' H', i ≤ xs.length → Pv i σ' H' → SqB K H' b a xs)
    (hs : ∀ k x σ' H' H'', xs[k]? = some x → Pv k σ' H' → Ex H' H'' → tu { D with nx := Pv (k + 1), ct := Pv (k + 1), bk := D.nx } ((σ'.set i (some (.int (k : Nat)))).set j (some x)) H'') (hd : ∀ σ' H', Pv xs.length σ' H' → D.nx σ' H') :
    tFor (iEnumA K ta) (gTup K 2 (gCons (gName i) (gCons (gName j) gNil))) tu D σ H :=
  h H (Ex.refl H) _ fun H1 e => ⟨b, a, xs, rfl, hx.ex e, for_it walk_enumB Pv (h0 H1 e) hl (fun k x σ' H' H'' _ p y => by
    obtain ⟨T, x1, x2, rfl, hT, rfl, e1, e2⟩ := y
    cases e1
    exact ⟨T, _, rfl, st_of upd_same, rfl, _, _, rfl, _, _, rfl, rfl, hs k x2 σ' H' _ e2 p (Ex.new hT)⟩) hd⟩
theorem q_forEn {b : Bool} {a : Addr} {xs : List V} {ta : TA} {i j : Nat} (h : EvA ta σ H [.ref a]) (hx : SqB K H b a xs) (Pv : Nat → L2.St → Hp → Prop) (h0 : ∀ H1, Ex H H1 → Pv 0 σ H1) (hl : ∀ i σ' H', i ≤ xs.length → Pv i σ' H' → SqB K H' b a xs)
    (hs : ∀ k x σ' H' H'', xs[k]? = some x → Pv k σ' H' → Ex H' H'' → tu { D with nx := Pv (k + 1), ct := Pv (k + 1), bk := tz D } ((σ'.set i (some (.int (k : Nat)))).set j (some x)) H'') (hd : ∀ σ' H', Pv xs.length σ' H' → tz D σ' H') :
    tSeq (tFor (iEnumA K ta) (gTup K 2 (gCons (gName i) (gCons (gName j) gNil))) tu) tz D σ H :=
  s_forEn (D := { D with nx := tz D }) h hx Pv h0 hl hs hd
/-- a comprehension over a list or a tuple -/
theorem el_lcA {b : Bool} {a : Addr} {xs : List V} {te : TE} {j : Nat} {vs : List Nat} (f : Nat → Bool) (v : Nat → V) (h : Ev tl σ H (.ref a)) (hx : SqB K H b a xs) (hz : xs.length ≤ 40000) (hw : ∀ x, wipe ((wipe σ vs).set j (some x)) vs = wipe σ vs)
    (ht : ∀ (i : Nat) (x : V) H1, Ex H H1 → xs[i]? = some x → EvT t ((wipe σ vs).set j (some x)) H1 (f i)) (he : ∀ (i : Nat) (x : V) H1, Ex H H1 → xs[i]? = some x → f i = true → Ev te ((wipe σ vs).set j (some x)) H1 (v i)) :
    EvL (tLc (iAny K tl) (gName j) t te vs) σ H (given xs.length f v) := fun H0 e Q q => h H0 e _ fun H1 e1 => ⟨b, a, rfl, ⟨xs, hx.ex (e.trans e1)⟩, fun Dl hD =>
  lc_it walk_B (Cw H1 f v Dl) ⟨hD, Ex.new hD, upd_same⟩ (fun i H' _ p => hx.ex ((e.trans e1).trans p.2.1)) (fun i x H' H'' hi p y => by
    obtain ⟨rfl, y2⟩ := y
    exact ⟨hw x, cw_turn p (by omega) (ht i x H1 (e.trans e1) y2) (fun hf => he i x H1 (e.trans e1) y2 hf)⟩)
    (fun H' p => q Dl H' (fresh_back e1 p.1) (e1.trans p.2.1) p.2.2)⟩
/-- all(new list of bools) -/
theorem ev_all {bs : List Bool} {xs : List V} (h : EvL te σ H xs) (hx : xs = bs.map V.bl) : Ev (tCB (rAll K) (tCons te tNil)) σ H (.bl (bs.all id)) := fun H1 e Q q =>
  h H1 e _ fun p H2 _ e2 h2 => ⟨p, bs, rfl, sq_of (hx ▸ h2), q H2 e2⟩
theorem ev_int1 {i : Int} (h : Ev te σ H (.int i)) : Ev (tCB (fun xs H Q => (∃ i, xs = [.int i] ∧ Q (.int i) H) ∨ ∃ k, xs = [.bl k] ∧ Q (.int (if k then 1 else 0)) H) (tCons te tNil)) σ H (.int i) := fun H1 e Q q =>
  h H1 e _ fun H2 e2 => .inl ⟨i, rfl, q H2 e2⟩
end
/-! ### defs by name -/
structure ClC (CX : CXT) (P : Program) (w : World) (K : PySem.W.Frag) (mg : Str → Option Value) (base : Heap) (k : Nat) (x : Str) (ps : List Str) (sp : Sp) : Prop where
  ex : ∃ (f : Addr) (fd : FuncData), mg x = some (.ref f) ∧ PySem.W.keepIn K (.ref f) = true ∧ Binds K fd ps [] ∧ FnOk P w K mg base CX k f fd ps sp
section
variable {X : Cx} {k j : Nat} {x : Str} {ps : List Str} {sp : Sp} {p pos : Pos} {e : Expr} {es : List Expr} {t : TA} {E : XK}
theorem pe_cl (c : ClC CX0 X.prog X.w X.K X.mg X.base k x ps sp) (hr : Room j X.A) (hk : k ≤ j) (hg : Gl X x) (ha : PA X (e :: es) t)
    (hdb : (x == ("__debug__" : Str)) = false := by decide) (he : starEach (e :: es) X.env = (false, eval e X.env) :: starEach es X.env := by rfl) (hpl : (backTo pos (starEach es X.env)).any (·.1) = false := by rfl) :
    PE X (.Call (.Name x p) (e :: es) [] pos) (tCall sp [] E0 t) := by
  obtain ⟨f, fd, hm, kp, b, F⟩ := c.ex
  exact pe_call F (hr.mono hk) hg hm kp b .nil (fun _ _ _ _ _ _ _ h => h.elim) ha hdb he hpl
theorem pe_clX (c : ClC (L2.CX X.prog X.w) X.prog X.w X.K X.mg X.base k x ps sp) (hr : Room j X.A) (hk : k ≤ j) (hx : Passes (L2.CX X.prog X.w) X E) (hg : Gl X x) (ha : PA X (e :: es) t)
    (hdb : (x == ("__debug__" : Str)) = false := by decide) (he : starEach (e :: es) X.env = (false, eval e X.env) :: starEach es X.env := by rfl) (hpl : (backTo pos (starEach es X.env)).any (·.1) = false := by rfl) :
    PE X (.Call (.Name x p) (e :: es) [] pos) (tCall sp [] E t) := by
  obtain ⟨f, fd, hm, kp, b, F⟩ := c.ex
  exact pe_call F (hr.mono hk) hg hm kp b .nil hx ha hdb he hpl
end
end TC
set_option maxHeartbeats 2000000
/-! More of the Ev style: values told by a word, classes made, fields, calls. -/
namespace TC
open PySem PySem.Spec PyProof.Rows L2 Evl
/-- e gives a v of which P holds -/
def EvP (te : TE) (σ : L2.St) (H : Hp) (P : V → Hp → Prop) : Prop := ∀ H1, Ex H H1 → ∀ Q : VK, (∀ v H2, Ex H1 H2 → P v H2 → Q v H2) → te σ H1 Q
/-- the arguments, told by a word -/
def EvAP (ta : TA) (σ : L2.St) (H : Hp) (P : List V → Hp → Prop) : Prop := ∀ H1, Ex H H1 → ∀ Q : List V → Hp → Prop, (∀ vs H2, Ex H1 H2 → P vs H2 → Q vs H2) → ta σ H1 Q
/-- a word that stays -/
def MonP (P : V → Hp → Prop) : Prop := ∀ v H H', Ex H H' → P v H → P v H'
/-- a promise: called with vs it gives a v of which P holds -/
def SpP (sp : Sp) (vs : List V) (H : Hp) (P : V → Hp → Prop) : Prop := ∀ H1, Ex H H1 → ∀ Q : VK, (∀ v H2, Ex H1 H2 → P v H2 → Q v H2) → ∀ E : XK, sp vs H1 Q E
/-- all but what stands at x -/
def ExX (x : Addr) (H H' : Hp) : Prop := ∀ a o, a ≠ x → H a = some o → H' a = some o
theorem ExX.refl {x : Addr} {H : Hp} : ExX x H H := fun _ _ _ h => h
theorem ExX.of {x : Addr} {H H' : Hp} (e : Ex H H') : ExX x H H' := fun a o _ h => e a o h
theorem ExX.trans {x : Addr} {H H1 H2 : Hp} (a : ExX x H H1) (b : ExX x H1 H2) : ExX x H H2 := fun c o n h => b c o n (a c o n h)
theorem ExX.upd {x : Addr} {H : Hp} {o : HO} : ExX x H (upd H x o) := fun a u n h => by rw [upd_ne n]; exact h
theorem ExX.ex {x : Addr} {H H' G : Hp} (e : ExX x H H') (g : Ex G H) (n : G x = none) : Ex G H' := fun a o h => e a o (fun z => by rw [z, n] at h; cases h) (g a o h)
section
variable {K : PySem.W.Frag} {σ : L2.St} {H H' : Hp} {ta tb te tx tl : TE} {t u : TT} {x y z v : V} {D : Ends} {tu tw tz : TS} {g : TG} {P R : V → Hp → Prop}
theorem Ev.p (h : Ev te σ H v) : EvP te σ H (fun w _ => w = v) := fun H1 e Q q => h H1 e Q fun H2 e2 => q v H2 e2 rfl
theorem EvP.ev (h : EvP te σ H (fun w _ => w = v)) : Ev te σ H v := fun H1 e Q q => h H1 e Q fun w H2 e2 ew => ew ▸ q H2 e2
theorem EvP.imp (h : EvP te σ H P) (k : ∀ v H1, Ex H H1 → P v H1 → R v H1) : EvP te σ H R := fun H1 e Q q => h H1 e Q fun w H2 e2 p => q w H2 e2 (k w H2 (e.trans e2) p)
theorem EvP.mono (e : Ex H H') (h : EvP te σ H P) : EvP te σ H' P := fun H1 a Q q => h H1 (e.trans a) Q q
theorem EvL.p {xs : List V} (h : EvL te σ H xs) : EvP te σ H (fun v H1 => ∃ a, v = .ref a ∧ H1 a = some (.lst xs)) := fun H1 e Q q => h H1 e Q fun p H2 _ e2 hp => q _ H2 e2 ⟨p, rfl, hp⟩
theorem EvU.p {xs : List V} (h : EvU te σ H xs) : EvP te σ H (fun v H1 => ∃ a, v = .ref a ∧ H1 a = some (.tup xs)) := fun H1 e Q q => h H1 e Q fun p H2 _ e2 hp => q _ H2 e2 ⟨p, rfl, hp⟩
theorem EvA.p {ta : TA} {vs : List V} (h : EvA ta σ H vs) : EvAP ta σ H (fun ws _ => ws = vs) := fun H1 e Q q => h H1 e Q fun H2 e2 => q vs H2 e2 rfl
theorem ea1 (h : Ev te σ H v) : EvA (tCons te tNil) σ H [v] := ea_cons h ea_nil
theorem ea2 {w : V} (h : Ev te σ H v) (h2 : Ev tx σ H w) : EvA (tCons te (tCons tx tNil)) σ H [v, w] := ea_cons h (ea_cons h2 ea_nil)
theorem eap_nil : EvAP tNil σ H (fun ws _ => ws = []) := EvA.p ea_nil
theorem eap1 (h : EvP te σ H P) : EvAP (tCons te tNil) σ H (fun ws H1 => ∃ v, ws = [v] ∧ P v H1) := fun H1 e Q q => h H1 e _ fun v H2 e2 p => q [v] H2 e2 ⟨v, rfl, p⟩
theorem eap_cons {tr : TA} {PA : List V → Hp → Prop} (m : MonP P) (h : EvP te σ H P) (hr : ∀ v H1, Ex H H1 → P v H1 → EvAP tr σ H1 PA) : EvAP (tCons te tr) σ H (fun ws H1 => ∃ v r, ws = v :: r ∧ P v H1 ∧ PA r H1) := fun H1 e Q q =>
  h H1 e _ fun v H2 e2 p => hr v H2 (e.trans e2) p H2 (Ex.refl H2) _ fun r H3 e3 p3 => q _ H3 (e2.trans e3) ⟨v, r, rfl, m v H2 H3 e3 p, p3⟩
theorem ep_tup {ta : TA} {PA : List V → Hp → Prop} (h : EvAP ta σ H PA) (hl : ∀ vs H1, PA vs H1 → vs.length ≤ 100000) (m : ∀ vs H H', Ex H H' → PA vs H → PA vs H') : EvP (tTup ta) σ H (fun v H1 => ∃ a vs, v = .ref a ∧ H1 a = some (.tup vs) ∧ PA vs H1) := fun H1 e Q q =>
  h H1 e _ fun vs H2 e2 p => ⟨sz_of (hl vs H2 p), fun a ha => q _ _ (e2.trans (Ex.new ha)) ⟨a, vs, rfl, upd_same, m vs _ _ (Ex.new ha) p⟩⟩
theorem ep_lst {ta : TA} {PA : List V → Hp → Prop} (h : EvAP ta σ H PA) (hl : ∀ vs H1, PA vs H1 → vs.length ≤ 100000) (m : ∀ vs H H', Ex H H' → PA vs H → PA vs H') : EvP (tLst ta) σ H (fun v H1 => ∃ a vs, v = .ref a ∧ H1 a = some (.lst vs) ∧ PA vs H1) := fun H1 e Q q =>
  h H1 e _ fun vs H2 e2 p => ⟨sz_of (hl vs H2 p), fun a ha => q _ _ (e2.trans (Ex.new ha)) ⟨a, vs, rfl, upd_same, m vs _ _ (Ex.new ha) p⟩⟩
/-- calls -/
theorem ep_call {sp : Sp} {vs : List V} {E : XK} {ta : TA} (h : EvA ta σ H vs) (hs : SpP sp vs H P) : EvP (tCall sp [] E ta) σ H P := fun H1 e Q q =>
  h H1 e _ fun H2 e2 => by rw [List.append_nil]; exact hs H2 (e.trans e2) Q (fun v H3 e3 => q v H3 (e2.trans e3)) E
theorem ep_callP {sp : Sp} {PA : List V → Hp → Prop} {E : XK} {ta : TA} (h : EvAP ta σ H PA) (hs : ∀ vs H1, Ex H H1 → PA vs H1 → SpP sp vs H1 P) : EvP (tCall sp [] E ta) σ H P := fun H1 e Q q =>
  h H1 e _ fun vs H2 e2 p => by rw [List.append_nil]; exact hs vs H2 (e.trans e2) p H2 (Ex.refl H2) Q (fun v H3 e3 => q v H3 (e2.trans e3)) E
theorem ev_call0 {sp : Sp} {vs : List V} {E : XK} {ta : TA} (h : EvA ta σ H vs) (hs : SpV sp vs H z) : Ev (tCall sp [] E ta) σ H z := ev_call h (by rw [List.append_nil]; exact hs)
/-- the second operand told by a word -/
theorem ep_op2 {r : R2} {Pa Pb : V → Hp → Prop} (m : MonP Pa) (ha : EvP ta σ H Pa) (hb : ∀ H1, Ex H H1 → EvP tb σ H1 Pb) (hr : ∀ x y H1, Ex H H1 → Pa x H1 → Pb y H1 → ∀ Q : VK, (∀ v H2, Ex H1 H2 → P v H2 → Q v H2) → r x y H1 Q) : EvP (tOp r ta tb) σ H P := fun H1 e Q q =>
  ha H1 e _ fun x H2 e2 px => hb H2 (e.trans e2) H2 (Ex.refl H2) _ fun y H3 e3 py => hr x y H3 ((e.trans e2).trans e3) (m x _ _ e3 px) py Q fun v H4 e4 p => q v H4 ((e2.trans e3).trans e4) p
/-- the field of an instance -/
theorem ev_fld {f : Str} {a C dx : Addr} {fs : List (Str × V)} (h : Ev te σ H (.ref a)) (hi : H a = some (.ins C dx fs)) (c : Cls K C) (n : NoAttr K C f) (hl : fs.lookup f = some v) : Ev (tFld K te f) σ H v := fun H1 e Q q =>
  h H1 e _ fun H2 e2 => ⟨a, C, dx, fs, v, rfl, (e.trans e2) _ _ hi, c, n, hl, q H2 e2⟩
/-- C(e, ..) -/
def SpMk (sp : Sp) (vs : List V) (H : Hp) (C : Addr) (P : Addr → Hp → Prop) : Prop := ∀ H1, Ex H H1 → ∀ x dx, H1 x = none → H1 dx = none → dx ≠ x → ∀ (Q : VK) (E : XK), (∀ H3, ExX x (upd (upd H1 dx (.own x)) x (.ins C dx [])) H3 → P x H3 → Q .non H3) → sp (.ref x :: vs) (upd (upd H1 dx (.own x)) x (.ins C dx [])) Q E
theorem ep_make {sp : Sp} {vs : List V} {C : Addr} {Pa : Addr → Hp → Prop} {E : XK} {ta : TA} (h : EvA ta σ H vs) (hs : SpMk sp vs H C Pa) : EvP (tMake C sp [] E ta) σ H (fun v H1 => ∃ x, v = .ref x ∧ Pa x H1) := fun H1 e Q q =>
  h H1 e _ fun H2 e2 x dx nx nd ne => by
    rw [List.append_nil]
    refine hs H2 (e.trans e2) x dx nx nd ne _ E fun H3 e3 p => ⟨rfl, q _ H3 (e2.trans fun a o ha => ?_) ⟨x, rfl, p⟩⟩
    refine e3 a o (ne_of_none ha nx) ?_
    rw [upd_ne (ne_of_none ha nx), upd_ne (ne_of_none ha nd)]
    exact ha
theorem ep_makeP {sp : Sp} {PA : List V → Hp → Prop} {C : Addr} {Pa : Addr → Hp → Prop} {E : XK} {ta : TA} (h : EvAP ta σ H PA) (hs : ∀ vs H1, Ex H H1 → PA vs H1 → SpMk sp vs H1 C Pa) : EvP (tMake C sp [] E ta) σ H (fun v H1 => ∃ x, v = .ref x ∧ Pa x H1) := fun H1 e Q q =>
  h H1 e _ fun vs H2 e2 pa x dx nx nd ne => by
    rw [List.append_nil]
    refine hs vs H2 (e.trans e2) pa H2 (Ex.refl H2) x dx nx nd ne _ E fun H3 e3 p => ⟨rfl, q _ H3 (e2.trans fun a o ha => ?_) ⟨x, rfl, p⟩⟩
    refine e3 a o (ne_of_none ha nx) ?_
    rw [upd_ne (ne_of_none ha nx), upd_ne (ne_of_none ha nd)]
    exact ha
/-- == and != of data -/
theorem ev_eqD {d e : PyData} (ha : Ev ta σ H x) (hb : Ev tb σ H y) (h1 : Dp K H x d) (h2 : Dp K H y e) (s1 : SeqAt.shaped d = true) (s2 : SeqAt.shaped e = true) : Ev (tOp (rEqD K) ta tb) σ H (.bl (PyData.eqv d e)) :=
  ev_op ha hb fun H1 ex Q q => ⟨d, e, Dp.ex ex h1, Dp.ex ex h2, s1, s2, q H1 (Ex.refl H1)⟩
theorem ev_neD {d e : PyData} (ha : Ev ta σ H x) (hb : Ev tb σ H y) (h1 : Dp K H x d) (h2 : Dp K H y e) (s1 : SeqAt.shaped d = true) (s2 : SeqAt.shaped e = true) : Ev (tOp (rNeD K) ta tb) σ H (.bl (!PyData.eqv d e)) :=
  ev_op ha hb fun H1 ex Q q => ⟨d, e, Dp.ex ex h1, Dp.ex ex h2, s1, s2, q H1 (Ex.refl H1)⟩
theorem monD {d : PyData} : MonP (fun v H => Dp K H v d) := fun _ _ _ e h => Dp.ex e h
theorem ep_eqD {d e : PyData} (ha : EvP ta σ H (fun v H => Dp K H v d)) (hb : EvP tb σ H (fun v H => Dp K H v e)) (s1 : SeqAt.shaped d = true) (s2 : SeqAt.shaped e = true) : Ev (tOp (rEqD K) ta tb) σ H (.bl (PyData.eqv d e)) :=
  EvP.ev (ep_op2 (monD (d := d)) ha (fun H1 e1 => hb.mono e1) fun x y H1 _ p1 p2 Q q => ⟨d, e, p1, p2, s1, s2, q _ H1 (Ex.refl H1) rfl⟩)
theorem ep_neD {d e : PyData} (ha : EvP ta σ H (fun v H => Dp K H v d)) (hb : EvP tb σ H (fun v H => Dp K H v e)) (s1 : SeqAt.shaped d = true) (s2 : SeqAt.shaped e = true) : Ev (tOp (rNeD K) ta tb) σ H (.bl (!PyData.eqv d e)) :=
  EvP.ev (ep_op2 (monD (d := d)) ha (fun H1 e1 => hb.mono e1) fun x y H1 _ p1 p2 Q q => ⟨d, e, p1, p2, s1, s2, q _ H1 (Ex.refl H1) rfl⟩)
theorem et_T {b : Bool} (h : Ev te σ H (.bl b)) : EvT (tTest te) σ H b := et_test h
/-- gcd -/
theorem ev_gcd {a b : Int} (h : EvA ta2 σ H [.int a, .int b]) : Ev (tCB rGcd ta2) σ H (.int ((Nat.gcd a.natAbs b.natAbs : Nat) : Int)) := ev_cb h fun H1 _ _ q => ⟨a, b, rfl, q H1 (Ex.refl H1)⟩
/-- statements with a value told by a word -/
theorem s_retP (h : EvP te σ H P) (k : ∀ v H1, Ex H H1 → P v H1 → D.rt v H1) : tRet te D σ H := h H (Ex.refl H) _ k
theorem s_asgP {i : Nat} (h : EvP te σ H P) (k : ∀ v H1, Ex H H1 → P v H1 → D.nx (σ.set i (some v)) H1) : tAsg te (gName i) D σ H := h H (Ex.refl H) _ k
theorem q_asgP {i : Nat} (h : EvP te σ H P) (k : ∀ v H1, Ex H H1 → P v H1 → tz D (σ.set i (some v)) H1) : tSeq (tAsg te (gName i)) tz D σ H := h H (Ex.refl H) _ k
theorem q_dropP (h : EvP te σ H P) (k : ∀ v H1, Ex H H1 → P v H1 → tz D σ H1) : tSeq (tDrop te) tz D σ H := h H (Ex.refl H) _ k
theorem q_par {ta : TA} {i j : Nat} {v w : V} (h : EvA ta σ H [v, w]) (k : ∀ H1, Ex H H1 → tz D ((σ.set i (some v)).set j (some w)) H1) : tSeq (tPar i j ta) tz D σ H := h H (Ex.refl H) _ fun H1 e => ⟨v, w, rfl, k H1 e⟩
theorem s_par {ta : TA} {i j : Nat} {v w : V} (h : EvA ta σ H [v, w]) (k : ∀ H1, Ex H H1 → D.nx ((σ.set i (some v)).set j (some w)) H1) : tPar i j ta D σ H := h H (Ex.refl H) _ fun H1 e => ⟨v, w, rfl, k H1 e⟩
/-- found, here = ([], e) -/
theorem q_parL {i j : Nat} {xs : List V} {w : V} (h : EvL te σ H xs) (h2 : Ev tx σ H w) (k : ∀ p H1, H p = none → Ex H H1 → H1 p = some (.lst xs) → tz D ((σ.set i (some (.ref p))).set j (some w)) H1) : tSeq (tPar i j (tCons te (tCons tx tNil))) tz D σ H :=
  h H (Ex.refl H) _ fun p H1 hp e h1 => h2 H1 e _ fun H2 e2 => ⟨_, w, rfl, k p H2 hp (e.trans e2) (e2 p _ h1)⟩
/-- append of what is told by a word -/
theorem s_appP {l : Addr} {xs : List V} (hl : H l = some (.lst xs)) (ha : Ev ta σ H (.ref l)) (h : EvP te σ H P) (hz : xs.length < 100000) (k : ∀ v H1, Ex H H1 → P v H1 → D.nx σ (upd H1 l (.lst (xs ++ [v])))) :
    tDrop (tBM K "list" rAppend ta (tCons te tNil)) D σ H := ha H (Ex.refl H) _ fun H1 e1 =>
  ⟨Or.inl ⟨rfl, xs, sq_of (e1 l _ hl)⟩, h H1 e1 _ fun v H2 e2 p => ⟨l, xs, v, rfl, rfl, e2 l _ (e1 l _ hl), sz_lt hz, k v H2 (e1.trans e2) p⟩⟩
theorem q_appP {l : Addr} {xs : List V} (hl : H l = some (.lst xs)) (ha : Ev ta σ H (.ref l)) (h : EvP te σ H P) (hz : xs.length < 100000) (k : ∀ v H1, Ex H H1 → P v H1 → tz D σ (upd H1 l (.lst (xs ++ [v])))) :
    tSeq (tDrop (tBM K "list" rAppend ta (tCons te tNil))) tz D σ H := s_appP (D := { D with nx := tz D }) hl ha h hz k
theorem s_fld {f : Str} {x C dx : Addr} {fs : List (Str × V)} (h : EvP te σ H P) (ho : Ev ta σ H (.ref x)) (hi : H x = some (.ins C dx fs)) (c : Cls K C) (n : NoAttr K C f) (hl : fs.length < 1000) (k : ∀ v H1 H2, Ex H H1 → Ex H1 H2 → P v H1 → D.nx σ (upd H2 x (.ins C dx (putF f v fs)))) : sFld K ta te f D σ H :=
  h H (Ex.refl H) _ fun v H1 e1 p => ho H1 e1 _ fun H2 e2 => ⟨x, C, dx, fs, rfl, (e1.trans e2) _ _ hi, c, n, hl, k v H1 H2 e1 e2 p⟩
theorem q_fld {f : Str} {x C dx : Addr} {fs : List (Str × V)} (h : EvP te σ H P) (ho : Ev ta σ H (.ref x)) (hi : H x = some (.ins C dx fs)) (c : Cls K C) (n : NoAttr K C f) (hl : fs.length < 1000) (k : ∀ v H1 H2, Ex H H1 → Ex H1 H2 → P v H1 → tz D σ (upd H2 x (.ins C dx (putF f v fs)))) : tSeq (sFld K ta te f) tz D σ H :=
  s_fld (D := { D with nx := tz D }) h ho hi c n hl k
theorem ep_if {b : Bool} (h : EvT t σ H b) (h1 : b = true → EvP ta σ H P) (h2 : b = false → EvP tb σ H P) : EvP (tIf t ta tb) σ H P := fun H1 e Q q => h H1 e _ fun H2 e2 => by
  cases b with
  | true =>
    show ta σ H2 Q
    exact h1 rfl H2 (e.trans e2) Q fun v H3 e3 p => q v H3 (e2.trans e3) p
  | false =>
    show tb σ H2 Q
    exact h2 rfl H2 (e.trans e2) Q fun v H3 e3 p => q v H3 (e2.trans e3) p
/-- list(x), tuple(x) -/
theorem el_listOf {b : Bool} {a : Addr} {xs : List V} (h : Ev te σ H (.ref a)) (hx : SqB K H b a xs) : EvL (tCB (fun xs H Q => ∃ p ys, xs = [.ref p] ∧ (SqL K H p ys ∨ SqT K H p ys) ∧ ∀ l, H l = none → Q (.ref l) (upd H l (.lst ys))) (tCons te tNil)) σ H xs := fun H1 e Q q =>
  h H1 e _ fun H2 e2 => ⟨a, xs, rfl, (hx.ex (e.trans e2)).or, fun l hl => q l _ (fresh_back e2 hl) (e2.trans (Ex.new hl)) upd_same⟩
abbrev rTupOf (K : PySem.W.Frag) : List V → Hp → VK → Prop := fun xs H Q => ∃ p ys, xs = [.ref p] ∧ ((SqL K H p ys ∧ ∀ l, H l = none → Q (.ref l) (upd H l (.tup ys))) ∨ (SqT K H p ys ∧ Q (.ref p) H))
theorem ep_tupleOf {b : Bool} {R : List V → Hp → Prop} (h : EvP te σ H (fun v H1 => ∃ a xs, v = .ref a ∧ SqB K H1 b a xs ∧ R xs H1)) (m : ∀ xs H H', Ex H H' → R xs H → R xs H') : EvP (tCB (rTupOf K) (tCons te tNil)) σ H (fun v H1 => ∃ a xs, v = .ref a ∧ SqT K H1 a xs ∧ R xs H1) := fun H1 e Q q =>
  h H1 e _ fun v H2 e2 ⟨a, ys, ev, hs, hr⟩ => by
    subst ev
    cases b with
    | true => exact ⟨a, ys, rfl, .inr ⟨hs, q _ H2 e2 ⟨a, ys, rfl, hs, hr⟩⟩⟩
    | false => exact ⟨a, ys, rfl, .inl ⟨hs, fun l hl => q _ _ (e2.trans (Ex.new hl)) ⟨l, ys, rfl, st_of upd_same, m _ _ _ (Ex.new hl) hr⟩⟩⟩
end
/-! ### classes by name -/
structure MkC (CX : CXT) (P : Program) (w : World) (K : PySem.W.Frag) (mg : Str → Option Value) (base : Heap) (k : Nat) (x : Str) (C : Addr) (ps : List Str) (sp : Sp) : Prop where
  ex : ∃ (f : Addr) (fd : FuncData), mg x = some (.ref C) ∧ Mk K C f ∧ Binds K fd ps [] ∧ FnOk P w K mg base CX k f fd ps sp
section
variable {X : Cx} {k j : Nat} {x : Str} {C : Addr} {ps : List Str} {sp : Sp} {p pos : Pos} {e : Expr} {es : List Expr} {t : TA} {E : XK}
theorem pe_mkc (c : MkC CX0 X.prog X.w X.K X.mg X.base k x C ps sp) (hr : Room j X.A) (hk : k + 1 ≤ j) (hg : Gl X x) (ha : PA X (e :: es) t)
    (hdb : (x == ("__debug__" : Str)) = false := by decide) (he : starEach (e :: es) X.env = (false, eval e X.env) :: starEach es X.env := by rfl) (hpl : (backTo pos (starEach es X.env)).any (·.1) = false := by rfl) :
    PE X (.Call (.Name x p) (e :: es) [] pos) (tMake C sp [] E0 t) := by
  obtain ⟨f, fd, hm, M, b, F⟩ := c.ex
  exact pe_make M F (hr.mono hk) hg hm b .nil (fun _ _ _ _ _ _ _ h => h.elim) ha hdb he hpl
end
/-- a def of which nothing is promised: it is not called -/
theorem cl_never {CX : CXT} {P : Program} {w : World} {K : PySem.W.Frag} {mg : Str → Option Value} {base : Heap} {f : Addr} {fd : FuncData} {x : Str} {ps : List Str} (hm : mg x = some (.ref f)) (kp : PySem.W.keepIn K (.ref f) = true) (b : Binds K fd ps []) : ClC CX P w K mg base 0 x ps (fun _ _ _ _ => False) :=
  ⟨f, fd, hm, kp, b, ⟨fun _ _ _ _ h => h.elim, fun _ _ _ _ _ _ _ _ _ _ _ _ _ h => h.elim⟩⟩
theorem given_all {n : Nat} {v : Nat → V} : given n (fun _ => true) v = (List.range n).map v := by
  unfold given
  rw [List.filter_eq_self.mpr (fun _ _ => rfl)]
theorem range_getD {α β : Type} (f : α → β) (z : α) : ∀ ds : List α, (List.range ds.length).map (fun i => f (ds.getD i z)) = ds.map f := fun ds => by
  apply List.ext_getElem
  · simp
  · intro i h1 h2
    simp at h1 h2
    simp [h1]
end TC
set_option maxHeartbeats 2000000
/-! Loops that look for the first index. -/
namespace TC
open PySem PySem.Spec PyProof.Rows L2 Evl
/-- the first of lo, lo + 1, .. (k of them) at which p holds -/
def fst (p : Nat → Bool) : Nat → Nat → Option Nat
  | _, 0 => none
  | lo, k + 1 => if p lo = true then some lo else fst p (lo + 1) k
theorem fst_yes {p : Nat → Bool} {lo k : Nat} (h : p lo = true) : fst p lo (k + 1) = some lo := by
  show (if p lo = true then some lo else fst p (lo + 1) k) = some lo
  rw [if_pos h]
theorem fst_no {p : Nat → Bool} {lo k : Nat} (h : p lo = false) : fst p lo (k + 1) = fst p (lo + 1) k := by
  show (if p lo = true then some lo else fst p (lo + 1) k) = fst p (lo + 1) k
  rw [if_neg (by rw [h]; exact Bool.false_ne_true)]
theorem fst_cut {p : Nat → Bool} (lo : Nat) : ∀ (i n : Nat), i ≤ n → (∀ j, lo ≤ j → j < lo + i → p j = false) → fst p lo n = fst p (lo + i) (n - i)
  | 0, n, _, _ => by simp
  | i + 1, n, h, hp => by
    obtain ⟨m, rfl⟩ : ∃ m, n = m + 1 := ⟨n - 1, by omega⟩
    rw [fst_no (hp lo (Nat.le_refl _) (by omega)), fst_cut (lo + 1) i m (by omega) (fun j h1 h2 => hp j (by omega) (by omega))]
    have e1 : lo + 1 + i = lo + (i + 1) := by omega
    have e2 : m - i = m + 1 - (i + 1) := by omega
    rw [e1, e2]
theorem fst_at {p : Nat → Bool} {lo i n : Nat} (hi : i < n) (hp : ∀ j, lo ≤ j → j < lo + i → p j = false) (hy : p (lo + i) = true) : fst p lo n = some (lo + i) := by
  rw [fst_cut lo i n (Nat.le_of_lt hi) hp]
  obtain ⟨m, hm⟩ : ∃ m, n - i = m + 1 := ⟨n - i - 1, by omega⟩
  rw [hm, fst_yes hy]
theorem fst_out {p : Nat → Bool} {lo n : Nat} (hp : ∀ j, lo ≤ j → j < lo + n → p j = false) : fst p lo n = none := by
  rw [fst_cut lo n n (Nat.le_refl _) hp, Nat.sub_self]
  rfl
/-- σ, its slot j whatever -/
def SetAtJ (σ : L2.St) (j : Nat) (σ' : L2.St) : Prop := σ' = σ ∨ ∃ v, σ' = σ.set j v
theorem SetAtJ.set {σ σ' : L2.St} {j : Nat} (h : SetAtJ σ j σ') (v : Option V) : σ'.set j v = σ.set j v := by
  rcases h with rfl | ⟨u, rfl⟩
  · rfl
  · rw [List.set_set]
theorem SetAtJ.of {σ : L2.St} {j : Nat} {v : Option V} : SetAtJ σ j (σ.set j v) := .inr ⟨v, rfl⟩
theorem SetAtJ.get {σ σ' : L2.St} {j i : Nat} (h : SetAtJ σ j σ') (n : i ≠ j) : σ'[i]? = σ[i]? := by
  rcases h with rfl | ⟨u, rfl⟩
  · rfl
  · rw [List.getElem?_set_ne (Ne.symm n)]
section
variable {K : PySem.W.Frag} {σ : L2.St} {H : Hp} {tl : TE} {t : TT} {D : Ends} {tu tz : TS} {ta : TA}
/-- for j in range(lo, n): if t: .. return -/
theorem q_firstR {j lo n : Nat} {p : Nat → Bool} (h : EvA ta σ H [.int (lo : Nat), .int (n : Nat)]) (hlo : lo ≤ 100000) (hn : n ≤ 100000)
    (ht : ∀ (i : Nat) H1, Ex H H1 → lo ≤ i → i < n → EvT t (σ.set j (some (.int (i : Nat)))) H1 (p i))
    (hr : ∀ (i : Nat) H1 (D' : Ends), D'.rt = D.rt → Ex H H1 → lo ≤ i → i < n → fst p lo (n - lo) = some i → tu D' (σ.set j (some (.int (i : Nat)))) H1)
    (hd : ∀ σ' H1, Ex H H1 → SetAtJ σ j σ' → fst p lo (n - lo) = none → tz D σ' H1) : tSeq (tFor (iRng2 ta) (gName j) (tIfS t tu tNext)) tz D σ H := by
  refine q_forR2 (lo := (lo : Int)) (n := (n : Int)) h ⟨by omega, by omega, by omega, by omega⟩ (fun i σ' H' => SetAtJ σ j σ' ∧ Ex H H' ∧ ∀ k, lo ≤ k → k < lo + i → p k = false) (fun H1 e => ⟨.inl rfl, e, fun k h1 h2 => absurd h2 (by omega)⟩) (fun i σ' H' hi ⟨s1, e1, hp⟩ => ?_) (fun σ' H' ⟨s1, e1, hp⟩ => hd σ' H' e1 s1 (fst_out (by
    have e2 : ((n : Int) - (lo : Int)).toNat = n - lo := by omega
    rw [e2] at hp
    exact hp)))
  have e3 : (lo : Int) + (i : Int) = ((lo + i : Nat) : Int) := by omega
  rw [e3, s1.set]
  refine s_when (ht (lo + i) H' e1 (by omega) (by omega)) (fun hy H1 e2 => ?_) (fun hno H1 e2 => ?_)
  · exact hr (lo + i) H1 _ rfl (e1.trans e2) (by omega) (by omega) (fst_at (by omega) hp hy)
  · refine ⟨SetAtJ.of, e1.trans e2, fun k h1 h2 => ?_⟩
    by_cases hk : k = lo + i
    · rw [hk]; exact hno
    · exact hp k h1 (by omega)
/-- for i, x in enumerate(l): if t: .. return -/
theorem q_firstE {b : Bool} {a : Addr} {xs : List V} {i j : Nat} {p : Nat → Bool} (h : EvA ta σ H [.ref a]) (hx : SqB K H b a xs)
    (ht : ∀ (k : Nat) x H1, Ex H H1 → xs[k]? = some x → EvT t ((σ.set i (some (.int (k : Nat)))).set j (some x)) H1 (p k))
    (hr : ∀ (k : Nat) x H1 (D' : Ends), D'.rt = D.rt → Ex H H1 → xs[k]? = some x → fst p 0 xs.length = some k → tu D' ((σ.set i (some (.int (k : Nat)))).set j (some x)) H1)
    (hd : ∀ σ' H1, Ex H H1 → (σ' = σ ∨ ∃ u v, σ' = (σ.set i u).set j v) → fst p 0 xs.length = none → tz D σ' H1) (hij : i ≠ j) : tSeq (tFor (iEnumA K ta) (gTup K 2 (gCons (gName i) (gCons (gName j) gNil))) (tIfS t tu tNext)) tz D σ H := by
  have st : ∀ σ', (σ' = σ ∨ ∃ u v, σ' = (σ.set i u).set j v) → ∀ u v, (σ'.set i u).set j v = (σ.set i u).set j v := fun σ' z u v => by
    rcases z with rfl | ⟨u', v', rfl⟩
    · rfl
    · rw [List.set_comm _ _ (Ne.symm hij), List.set_set, List.set_set]
  refine q_forEn h hx (fun k σ' H' => (σ' = σ ∨ ∃ u v, σ' = (σ.set i u).set j v) ∧ Ex H H' ∧ ∀ m, m < k → p m = false) (fun H1 e => ⟨.inl rfl, e, fun k h1 => absurd h1 (by omega)⟩) (fun k σ' H' _ q => hx.ex q.2.1) (fun k x σ' H' H'' hk ⟨s1, e1, hp⟩ e2 => ?_) (fun σ' H' ⟨s1, e1, hp⟩ => hd σ' H' e1 s1 (fst_out (fun m _ h2 => hp m (by omega))))
  rw [st σ' s1]
  refine s_when (ht k x H'' (e1.trans e2) hk) (fun hy H1 e3 => ?_) (fun hno H1 e3 => ?_)
  · have hlt : k < xs.length := (List.getElem?_eq_some_iff.mp hk).1
    exact hr k x H1 _ rfl ((e1.trans e2).trans e3) hk (by
      have := fst_at (p := p) (lo := 0) (i := k) (n := xs.length) hlt (fun m _ h2 => hp m (by omega)) (by rw [Nat.zero_add]; exact hy)
      rw [Nat.zero_add] at this
      exact this)
  · refine ⟨.inr ⟨_, _, rfl⟩, (e1.trans e2).trans e3, fun m hm => ?_⟩
    by_cases hk' : m = k
    · rw [hk']; exact hno
    · exact hp m (by omega)
/-- 1 <= x <= n -/
theorem ev_chain {x y z : Int} {ta tb tc : TE} (ha : Ev ta σ H (.int x)) (hb : Ev tb σ H (.int y)) (hc : Ev tc σ H (.int z)) : Ev (tChain (rI0 fun i j => .bl (decide (i ≤ j))) (rI0 fun i j => .bl (decide (i ≤ j))) ta tb tc) σ H (.bl (decide (x ≤ y) && decide (y ≤ z))) := fun H1 e Q q =>
  ha H1 e _ fun H2 e2 => hb H2 (e.trans e2) _ fun H3 e3 => ⟨x, y, rfl, rfl, decide (x ≤ y), rfl, by
    cases hd : decide (x ≤ y) with
    | true =>
      show tc σ H3 _
      refine hc H3 ((e.trans e2).trans e3) _ fun H4 e4 => ⟨y, z, rfl, rfl, ?_⟩
      have := q H4 ((e2.trans e3).trans e4)
      rw [hd] at this
      exact this
    | false =>
      show Q (.bl false) H3
      have := q H3 (e2.trans e3)
      rw [hd] at this
      exact this⟩
end
end TC
set_option maxHeartbeats 2000000
/-! Instances: data beside them; calls that may raise; own == by name. -/
namespace TC
open PySem PySem.Spec PyProof.Rows L2 Evl
section
variable {K : PySem.W.Frag} {H H' : Hp} {x C dx : Addr} {fs : List (Str × V)}
theorem sqL_X {a : Addr} {xs : List V} (hx : H x = some (.ins C dx fs)) (e : ExX x H H') (h : SqL K H a xs) : SqL K H' a xs := by
  rcases h with (h | ⟨o, h⟩) | h
  · exact .inl (.inl (e a _ (fun z => by rw [z, hx] at h; cases h) h))
  · exact .inl (.inr ⟨o, e a _ (fun z => by rw [z, hx] at h; cases h) h⟩)
  · exact .inr h
theorem sqT_X {a : Addr} {xs : List V} (hx : H x = some (.ins C dx fs)) (e : ExX x H H') (h : SqT K H a xs) : SqT K H' a xs := by
  rcases h with (h | ⟨o, h⟩) | h
  · exact .inl (.inl (e a _ (fun z => by rw [z, hx] at h; cases h) h))
  · exact .inl (.inr ⟨o, e a _ (fun z => by rw [z, hx] at h; cases h) h⟩)
  · exact .inr h
mutual
theorem Dp.exX (hx : H x = some (.ins C dx fs)) (e : ExX x H H') : ∀ {d : PyData} {v : V}, Dp K H v d → Dp K H' v d
  | _, _, .non => .non
  | _, _, .bl b => .bl b
  | _, _, .int i => .int i
  | _, _, .str z => .str z
  | _, _, .lst h a => .lst (sqL_X hx e h) (DpAll.exX hx e a)
  | _, _, .tup h a => .tup (sqT_X hx e h) (DpAll.exX hx e a)
theorem DpAll.exX (hx : H x = some (.ins C dx fs)) (e : ExX x H H') : ∀ {ds : List PyData} {vs : List V}, DpAll K H vs ds → DpAll K H' vs ds
  | _, _, .nil => .nil
  | _, _, .cons h a => .cons (Dp.exX hx e h) (DpAll.exX hx e a)
end
theorem ex_mk {H1 : Hp} (nx : H1 x = none) (nd : H1 dx = none) (ne : dx ≠ x) : Ex H1 (upd (upd H1 dx (.own x)) x (.ins C dx [])) := (Ex.new nd).trans (Ex.new (by rw [upd_ne (Ne.symm ne)]; exact nx))
theorem atI_int {ns : List Int} {i : Nat} (h : i < ns.length) : atI (ns.map V.int) (i : Int) = some (.int (ns.getD i 0)) := by
  have e : (ns.map V.int)[i]? = some (.int (ns.getD i 0)) := by
    rw [List.getElem?_map, List.getD_eq_getElem?_getD, List.getElem?_eq_getElem h]; rfl
  unfold atI
  rw [List.length_map, ixN_nat h]
  exact e
theorem atI_n {xs : List V} {i : Nat} {v : V} (h : xs[i]? = some v) : atI xs (i : Int) = some v := by
  unfold atI
  rw [ixN_nat (List.getElem?_eq_some_iff.mp h).1]
  exact h
theorem ixN_m1 {n : Nat} (h : 0 < n) : ixN n (-1) = some (n - 1) := by
  unfold ixN
  rw [if_neg (by omega)]
  have e : ((n : Int) + -1).toNat = n - 1 := by omega
  first
    | (rw [if_pos (by omega)]; rw [e])
    | (rw [if_pos (by omega), if_pos (by omega)]; rw [e])
    | (simp; omega)
theorem atI_m1 {xs : List V} {v : V} (h : xs[xs.length - 1]? = some v) : atI xs (-1) = some v := by
  unfold atI
  have hl : 0 < xs.length := by have := (List.getElem?_eq_some_iff.mp h).1; omega
  rw [ixN_m1 hl]
  exact h
end
section
variable {K : PySem.W.Frag} {σ : L2.St} {H : Hp} {ta : TA} {D : Ends} {tz : TS} {sp : Sp} {vs : List V} {E : XK} {te : TE}
theorem q_dropCall (h : EvA ta σ H vs) (k : ∀ H1, Ex H H1 → sp vs H1 (fun _ H2 => tz D σ H2) E) : tSeq (tDrop (tCall sp [] E ta)) tz D σ H := h H (Ex.refl H) _ fun H1 e => by rw [List.append_nil]; exact k H1 e
theorem q_asgCall {i : Nat} (h : EvA ta σ H vs) (k : ∀ H1, Ex H H1 → sp vs H1 (fun v H2 => tz D (σ.set i (some v)) H2) E) : tSeq (tAsg (tCall sp [] E ta) (gName i)) tz D σ H := h H (Ex.refl H) _ fun H1 e => by rw [List.append_nil]; exact k H1 e
theorem s_retCall (h : EvA ta σ H vs) (k : ∀ H1, Ex H H1 → sp vs H1 (fun v H2 => D.rt v H2) E) : tRet (tCall sp [] E ta) D σ H := h H (Ex.refl H) _ fun H1 e => by rw [List.append_nil]; exact k H1 e
theorem ev_isN {x : V} (h : Ev te σ H x) : Ev (tOp (fun x y H Q => y = .non ∧ Q (.bl (decide (x = .non))) H) te (tC .non)) σ H (.bl (decide (x = .non))) := ev_op h ev_c fun H1 e Q q => ⟨rfl, q H1 (Ex.refl H1)⟩
theorem ev_notN {x : V} (h : Ev te σ H x) : Ev (tOp (fun x y H Q => y = .non ∧ Q (.bl (!decide (x = .non))) H) te (tC .non)) σ H (.bl (!decide (x = .non))) := ev_op h ev_c fun H1 e Q q => ⟨rfl, q H1 (Ex.refl H1)⟩
theorem s_raiseEr {C : Addr} {f : Str} {v : V} {W : WX} (h : EvA ta σ H [v]) (k : ∀ H1 d, Ex H H1 → H1 d = some (.xd [(f, v)]) → W (.ref C) (some d) σ H1) : tRaiseEr C f W ta D σ H := h H (Ex.refl H) _ fun H1 e => ⟨v, rfl, fun d hd => k _ d (e.trans (Ex.new hd)) upd_same⟩
end
/-! own == by name -/
structure EqK (P : Program) (w : World) (K : PySem.W.Frag) (mg : Str → Option Value) (base : Heap) (k : Nat) (f : Addr) (ps : List Str) (sp : Sp) : Prop where
  ex : ∃ fd : FuncData, Binds K fd ps [] ∧ FnOk P w K mg base CX0 k f fd ps sp
section
variable {X : Cx} {k j : Nat} {C f : Addr} {ps : List Str} {sp : Sp}
theorem op_eqO (c : EqK X.prog X.w X.K X.mg X.base k f ps sp) (T : EqC X.K C f) (hr : Room j X.A) (hk : k ≤ j) : OpR X (compareOp .Eq) (rOwn X.K C sp E0 false) := by
  obtain ⟨fd, b, F⟩ := c.ex
  exact op_eqOwn F T (hr.mono hk) b (fun _ _ _ _ _ _ _ h => h.elim)
theorem op_neO (c : EqK X.prog X.w X.K X.mg X.base k f ps sp) (T : EqC X.K C f) (hr : Room j X.A) (hk : k + 1 ≤ j) : OpR X (compareOp .NotEq) (rOwn X.K C sp E0 true) := by
  obtain ⟨fd, b, F⟩ := c.ex
  exact op_neOwn F T (hr.mono hk) b (fun _ _ _ _ _ _ _ h => h.elim)
end
theorem pe_gcI {X : Cx} {x : Str} {v : V} {pos : Pos} (hg : Gl X x) (h : ∃ u, X.mg x = some u ∧ RelV v u) (hd : (x == ("__debug__" : Str)) = false := by decide) : PE X (.Name x pos) (tC v) := by
  obtain ⟨u, hm, r⟩ := h
  exact pe_glob hg hm r hd
end TC
set_option maxHeartbeats 2000000
/-! Unpacking, + of lists, shapes of data. -/
namespace TC
open PySem PySem.Spec PyProof.Rows L2 Evl
section
variable {K : PySem.W.Frag} {σ : L2.St} {H : Hp} {ta tb te : TE} {D : Ends} {tz : TS}
theorem q_unp {i j : Nat} {c : Addr} {v w : V} (h : Ev te σ H (.ref c)) (hc : SqT K H c [v, w]) (k : ∀ H1, Ex H H1 → tz D ((σ.set i (some v)).set j (some w)) H1) : tSeq (tAsg te (gTup K 2 (gCons (gName i) (gCons (gName j) gNil)))) tz D σ H :=
  h H (Ex.refl H) _ fun H1 e => ⟨c, _, rfl, ex_t e hc, rfl, _, _, rfl, _, _, rfl, rfl, k H1 e⟩
theorem el_cat {l : Addr} {xs zs : List V} (ha : EvL ta σ H xs) (hb : Ev tb σ H (.ref l)) (hl : H l = some (.lst zs)) (hz : xs.length + zs.length ≤ 100000) : EvL (tOp rCat ta tb) σ H (xs ++ zs) := fun H1 e Q q =>
  ha H1 e _ fun p H2 _ e2 hp => hb H2 (e.trans e2) _ fun H3 e3 => ⟨p, l, xs, zs, rfl, rfl, e3 p _ hp, e3 l _ (e2 l _ (e l _ hl)), sz_of hz, fun r hr => q r _ (fresh_back (e2.trans e3) hr) ((e2.trans e3).trans (Ex.new hr)) upd_same⟩
theorem el_cat2 {l : Addr} {xs zs : List V} (ha : Ev ta σ H (.ref l)) (hb : EvL tb σ H zs) (hl : H l = some (.lst xs)) (hz : xs.length + zs.length ≤ 100000) : EvL (tOp rCat ta tb) σ H (xs ++ zs) := fun H1 e Q q =>
  ha H1 e _ fun H2 e2 => hb H2 (e.trans e2) _ fun p H3 _ e3 hp => ⟨l, p, xs, zs, rfl, rfl, e3 l _ (e2 l _ (e l _ hl)), hp, sz_of hz, fun r hr => q r _ (fresh_back (e2.trans e3) hr) ((e2.trans e3).trans (Ex.new hr)) upd_same⟩
theorem cmul {i j : Int} (h : (-(2 ^ 60) < i ∧ i < 2 ^ 60) ∨ (-(2 ^ 60) < j ∧ j < 2 ^ 60)) : CMul i j := by
  rcases h with h | h
  · exact .inl ⟨by omega, by omega⟩
  · exact .inr ⟨by omega, by omega⟩
/-! shapes -/
theorem canLay_ints : ∀ ns : List Int, PyData.canLayAll0 (ns.map PyData.int) = true
  | [] => by simp [PyData.canLayAll0]
  | n :: r => by rw [List.map_cons]; simp [PyData.canLayAll0, PyData.canLay0, canLay_ints r]
theorem depth_ints : ∀ ns : List Int, PyData.depthAll (ns.map PyData.int) ≤ 1
  | [] => by simp [PyData.depthAll]
  | n :: r => by have := depth_ints r; rw [List.map_cons]; simp [PyData.depthAll, PyData.depth]; omega
theorem shaped_seq {b : Bool} {ds : List PyData} (h1 : PyData.canLayAll0 ds = true) (h2 : PyData.depthAll ds ≤ 60) : SeqAt.shaped (seqD b ds) = true := by
  cases b
  · show (PyData.canLay0 (.list ds) && decide (PyData.depth (.list ds) ≤ 64)) = true
    simp [PyData.canLay0, h1, PyData.depth]; omega
  · show (PyData.canLay0 (.tuple ds) && decide (PyData.depth (.tuple ds) ≤ 64)) = true
    simp [PyData.canLay0, h1, PyData.depth]; omega
theorem shaped_ints {b : Bool} {ns : List Int} : SeqAt.shaped (seqD b (ns.map PyData.int)) = true := shaped_seq (canLay_ints ns) (Nat.le_trans (depth_ints ns) (by decide))
theorem eqvAll_ints : ∀ ns ms : List Int, PyData.eqvAll (ns.map PyData.int) (ms.map PyData.int) = decide (ns = ms)
  | [], [] => by simp [PyData.eqvAll]
  | [], m :: ms => by simp [PyData.eqvAll]
  | n :: ns, [] => by simp [PyData.eqvAll]
  | n :: ns, m :: ms => by
    rw [List.map_cons, List.map_cons]
    simp only [PyData.eqvAll, PyData.eqv]
    rw [eqvAll_ints ns ms]
    by_cases h1 : n = m
    · subst h1
      by_cases h2 : ns = ms
      · subst h2; simp
      · simp [h2]
    · simp [h1]
theorem eqv_ints {b : Bool} {ns ms : List Int} : PyData.eqv (seqD b (ns.map PyData.int)) (seqD b (ms.map PyData.int)) = decide (ns = ms) := by
  rw [← eqvAll_ints]
  cases b <;> simp [seqD, PyData.eqv]
/-! pairs -/
def prD (p : Int × Int) : PyData := .tuple [.int p.1, .int p.2]
theorem pair_inv {x : V} {p : Int × Int} (h : Dp K H x (prD p)) : ∃ c, x = .ref c ∧ SqT K H c [.int p.1, .int p.2] := by
  obtain ⟨c, xs, rfl, sq, hx⟩ := Dp.seq_inv (b := true) h
  have hxs : xs = [.int p.1, .int p.2] := by
    cases hx with
    | cons h1 h2 =>
      cases h1
      cases h2 with
      | cons h3 h4 => cases h3; cases h4; rfl
  exact ⟨c, rfl, hxs ▸ sq⟩
theorem pair_of {c : Addr} {p : Int × Int} (h : SqT K H c [.int p.1, .int p.2]) : Dp K H (.ref c) (prD p) := Dp.tup h (.cons (.int _) (.cons (.int _) .nil))
def cabD (b : Bool) (ps : List (Int × Int)) : PyData := seqD b (ps.map prD)
theorem cab_inv {b : Bool} {v : V} {ps : List (Int × Int)} (h : Dp K H v (cabD b ps)) : ∃ a xs, v = .ref a ∧ SqB K H b a xs ∧ DpAll K H xs (ps.map prD) ∧ xs.length = ps.length := by
  obtain ⟨a, xs, e, sq, hx⟩ := Dp.seq_inv h
  exact ⟨a, xs, e, sq, hx, by rw [DpAll.length hx, List.length_map]⟩
theorem cab_at {xs : List V} {ps : List (Int × Int)} (h : DpAll K H xs (ps.map prD)) {k : Nat} {x : V} (hx : xs[k]? = some x) : ∃ p c, ps[k]? = some p ∧ x = .ref c ∧ SqT K H c [.int p.1, .int p.2] := by
  obtain ⟨d, h1, h2⟩ := DpAll.get h hx
  rw [List.getElem?_map] at h1
  cases hp : ps[k]? with
  | none => rw [hp] at h1; cases h1
  | some p =>
    rw [hp] at h1
    cases h1
    obtain ⟨c, e, hc⟩ := pair_inv h2
    exact ⟨p, c, rfl, e, hc⟩
theorem cab_at' {xs : List V} {ps : List (Int × Int)} (h : DpAll K H xs (ps.map prD)) {k : Nat} (hk : k < ps.length) : ∃ c, xs[k]? = some (.ref c) ∧ SqT K H c [.int (ps.getD k (0, 0)).1, .int (ps.getD k (0, 0)).2] := by
  have hl : xs.length = ps.length := by rw [DpAll.length h, List.length_map]
  have hx : xs[k]? = some xs[k] := List.getElem?_eq_getElem (by omega)
  obtain ⟨p, c, h1, h2, h3⟩ := cab_at h hx
  have e : ps.getD k (0, 0) = p := by rw [List.getD_eq_getElem?_getD, h1]; rfl
  rw [e]
  exact ⟨c, by rw [hx, h2], h3⟩
theorem canLay_pairs : ∀ ps : List (Int × Int), PyData.canLayAll0 (ps.map prD) = true
  | [] => by simp [PyData.canLayAll0]
  | p :: r => by rw [List.map_cons]; simp [PyData.canLayAll0, prD, PyData.canLay0, canLay_pairs r]
theorem depth_pairs : ∀ ps : List (Int × Int), PyData.depthAll (ps.map prD) ≤ 3
  | [] => by simp [PyData.depthAll]
  | p :: r => by have := depth_pairs r; rw [List.map_cons]; simp [PyData.depthAll, prD, PyData.depth]; omega
theorem shaped_cab {b : Bool} {ps : List (Int × Int)} : SeqAt.shaped (cabD b ps) = true := shaped_seq (canLay_pairs ps) (Nat.le_trans (depth_pairs ps) (by decide))
theorem eqvAll_pairs : ∀ ns ms : List (Int × Int), PyData.eqvAll (ns.map prD) (ms.map prD) = decide (ns = ms)
  | [], [] => by simp [PyData.eqvAll]
  | [], m :: ms => by simp [PyData.eqvAll]
  | n :: ns, [] => by simp [PyData.eqvAll]
  | (n1, n2) :: ns, (m1, m2) :: ms => by
    rw [List.map_cons, List.map_cons]
    simp only [PyData.eqvAll]
    rw [eqvAll_pairs ns ms]
    simp only [prD, PyData.eqv, PyData.eqvAll]
    by_cases h2 : ns = ms
    · subst h2
      by_cases h3 : n1 = m1
      · subst h3
        by_cases h4 : n2 = m2
        · subst h4; simp
        · simp [h4]
      · simp [h3]
    · simp [h2]
theorem eqv_cab {b : Bool} {ns ms : List (Int × Int)} : PyData.eqv (cabD b ns) (cabD b ms) = decide (ns = ms) := by
  rw [← eqvAll_pairs]
  cases b <;> simp [cabD, seqD, PyData.eqv]
end
/-! rules with the written part named -/
section
variable {X : Cx} {K : PySem.W.Frag}
theorem call_lenK (h : X.K = K) : CallR X (.builtin "len") (rLenA K) := by subst h; exact call_len_seq
theorem call_isi1 (h : X.K = K) : CallR X (.builtin "isinstance") (rIsi K) := by subst h; exact call_isi
theorem call_isi2 (h : X.K = K) : CallR X (.builtin "isinstance") (rIsiT K) := by subst h; exact call_isiT
theorem ix_seqK (h : X.K = K) : IxR X (rIxA K) := by subst h; exact ix_seq
end
end TC
set_option maxHeartbeats 2000000
/-! The pen: dicts that change, data beside them; displays of data. -/
namespace TC
open PySem PySem.Spec PyProof.Rows L2 Evl
/-- neither a list nor a tuple nor locked -/
def NotSq : HO → Prop
  | .lst _ => False
  | .tup _ => False
  | .frz _ _ => False
  | _ => True
section
variable {K : PySem.W.Frag} {H H' : Hp} {x : Addr} {o : HO}
theorem sqL_N {a : Addr} {xs : List V} (hx : H x = some o) (n : NotSq o) (e : ExX x H H') (h : SqL K H a xs) : SqL K H' a xs := by
  rcases h with (h | ⟨u, h⟩) | h
  · exact .inl (.inl (e a _ (fun z => by rw [z, hx] at h; cases h; exact n) h))
  · exact .inl (.inr ⟨u, e a _ (fun z => by rw [z, hx] at h; cases h; exact n) h⟩)
  · exact .inr h
theorem sqT_N {a : Addr} {xs : List V} (hx : H x = some o) (n : NotSq o) (e : ExX x H H') (h : SqT K H a xs) : SqT K H' a xs := by
  rcases h with (h | ⟨u, h⟩) | h
  · exact .inl (.inl (e a _ (fun z => by rw [z, hx] at h; cases h; exact n) h))
  · exact .inl (.inr ⟨u, e a _ (fun z => by rw [z, hx] at h; cases h; exact n) h⟩)
  · exact .inr h
theorem sqB_N {b : Bool} {a : Addr} {xs : List V} (hx : H x = some o) (n : NotSq o) (e : ExX x H H') (h : SqB K H b a xs) : SqB K H' b a xs := by
  cases b with
  | true => exact sqT_N hx n e h
  | false => exact sqL_N hx n e h
mutual
theorem Dp.exN (hx : H x = some o) (n : NotSq o) (e : ExX x H H') : ∀ {d : PyData} {v : V}, Dp K H v d → Dp K H' v d
  | _, _, .non => .non
  | _, _, .bl b => .bl b
  | _, _, .int i => .int i
  | _, _, .str z => .str z
  | _, _, .lst h a => .lst (sqL_N hx n e h) (DpAll.exN hx n e a)
  | _, _, .tup h a => .tup (sqT_N hx n e h) (DpAll.exN hx n e a)
theorem DpAll.exN (hx : H x = some o) (n : NotSq o) (e : ExX x H H') : ∀ {ds : List PyData} {vs : List V}, DpAll K H vs ds → DpAll K H' vs ds
  | _, _, .nil => .nil
  | _, _, .cons h a => .cons (Dp.exN hx n e h) (DpAll.exN hx n e a)
end
end
section
variable {K : PySem.W.Frag} {σ : L2.St} {H : Hp} {te tx td ty tv : TE} {ta tr : TA} {D : Ends} {tz : TS} {v : V} {P : V → Hp → Prop}
theorem ev_dget {p : Addr} {kvs : List (Key × V)} {k : Str} (hd : Ev td σ H (.ref p)) (hy : Ev ty σ H (.str k)) (hp : H p = some (.dK kvs)) (hv : valV kvs (.inr k) = some v) : Ev (tDGet td ty) σ H v := fun H1 e Q q =>
  hd H1 e _ fun H2 e2 => hy H2 (e.trans e2) _ fun H3 e3 => ⟨p, v, rfl, .inl ⟨kvs, .inr k, .inl ((e.trans (e2.trans e3)) _ _ hp), rfl, hv.symm⟩, q H3 (e2.trans e3)⟩
theorem s_dput {p : Addr} {kvs : List (Key × V)} {k : Str} (h : Ev tv σ H v) (hd : Ev td σ H (.ref p)) (hy : Ev ty σ H (.str k)) (hp : H p = some (.dK kvs)) (hl : kvs.length < 1000) (c : ∀ H1, Ex H H1 → D.nx σ (upd H1 p (.dK (putK kvs (.inr k) v)))) : sDPut td ty tv D σ H :=
  h H (Ex.refl H) _ fun H1 e1 => hd H1 e1 _ fun H2 e2 => hy H2 (e1.trans e2) _ fun H3 e3 => ⟨p, _, rfl, .inl ⟨kvs, .inr k, (e1.trans (e2.trans e3)) _ _ hp, rfl, Nat.lt_of_lt_of_le hl (by decide), rfl⟩, c H3 (e1.trans (e2.trans e3))⟩
theorem q_dput {p : Addr} {kvs : List (Key × V)} {k : Str} (h : Ev tv σ H v) (hd : Ev td σ H (.ref p)) (hy : Ev ty σ H (.str k)) (hp : H p = some (.dK kvs)) (hl : kvs.length < 1000) (c : ∀ H1, Ex H H1 → tz D σ (upd H1 p (.dK (putK kvs (.inr k) v)))) : tSeq (sDPut td ty tv) tz D σ H :=
  s_dput (D := { D with nx := tz D }) h hd hy hp hl c
/-- displays of data -/
def EvAD (K : PySem.W.Frag) (ta : TA) (σ : L2.St) (H : Hp) (ds : List PyData) : Prop := EvAP ta σ H (fun vs H1 => DpAll K H1 vs ds)
theorem ead_nil : EvAD K tNil σ H [] := fun H1 e Q q => q [] H1 (Ex.refl H1) .nil
theorem ead_cons {d : PyData} {ds : List PyData} (h : EvP te σ H (fun v H1 => Dp K H1 v d)) (hr : EvAD K tr σ H ds) : EvAD K (tCons te tr) σ H (d :: ds) := fun H1 e Q q =>
  h H1 e _ fun v H2 e2 p => hr H2 (e.trans e2) _ fun vs H3 e3 ps => q _ H3 (e2.trans e3) (.cons (Dp.ex e3 p) ps)
theorem epD_tup {ds : List PyData} (h : EvAD K ta σ H ds) (hl : ds.length ≤ 100000) : EvP (tTup ta) σ H (fun v H1 => Dp K H1 v (.tuple ds)) := fun H1 e Q q =>
  h H1 e _ fun vs H2 e2 p => ⟨sz_of (by rw [DpAll.length p]; exact hl), fun a ha => q _ _ (e2.trans (Ex.new ha)) (.tup (st_of upd_same) (DpAll.ex (Ex.new ha) p))⟩
theorem epD_lst {ds : List PyData} (h : EvAD K ta σ H ds) (hl : ds.length ≤ 100000) : EvP (tLst ta) σ H (fun v H1 => Dp K H1 v (.list ds)) := fun H1 e Q q =>
  h H1 e _ fun vs H2 e2 p => ⟨sz_of (by rw [DpAll.length p]; exact hl), fun a ha => q _ _ (e2.trans (Ex.new ha)) (.lst (sq_of upd_same) (DpAll.ex (Ex.new ha) p))⟩
theorem epD_int {i : Int} : EvP (tC (.int i)) σ H (fun v H1 => Dp K H1 v (.int i)) := fun H1 e Q q => q _ H1 (Ex.refl H1) (.int i)
theorem epD_str {i : Str} : EvP (tC (.str i)) σ H (fun v H1 => Dp K H1 v (.str i)) := fun H1 e Q q => q _ H1 (Ex.refl H1) (.str i)
theorem epD_bl {i : Bool} : EvP (tC (.bl i)) σ H (fun v H1 => Dp K H1 v (.bool i)) := fun H1 e Q q => q _ H1 (Ex.refl H1) (.bl i)
theorem epD_non : EvP (tC .non) σ H (fun v H1 => Dp K H1 v .none) := fun H1 e Q q => q _ H1 (Ex.refl H1) .non
theorem epD_var {i : Nat} {d : PyData} (h : σ[i]? = some (some v)) (hd : Dp K H v d) : EvP (tVar i) σ H (fun v H1 => Dp K H1 v d) := (Ev.p (ev_var h)).imp fun w H1 e ew => ew ▸ Dp.ex e hd
/-- arguments of which each is told by a word of its place -/
def AllP (Ps : List (V → Hp → Prop)) (vs : List V) (H : Hp) : Prop := vs.length = Ps.length ∧ ∀ (i : Nat) v P, vs[i]? = some v → Ps[i]? = some P → P v H
theorem AllP.nil : AllP [] [] H := ⟨rfl, fun i v P h => by simp at h⟩
theorem AllP.cons {P : V → Hp → Prop} {Ps : List (V → Hp → Prop)} {vs : List V} (h : P v H) (hr : AllP Ps vs H) : AllP (P :: Ps) (v :: vs) H := ⟨by simp [hr.1], fun i w R h1 h2 => by
  cases i with
  | zero => simp at h1 h2; subst h1 h2; exact h
  | succ i => simp at h1 h2; exact hr.2 i w R h1 h2⟩
def AllM (Ps : List (V → Hp → Prop)) : Prop := ∀ P ∈ Ps, MonP P
theorem AllP.ex {Ps : List (V → Hp → Prop)} (m : AllM Ps) {H H' : Hp} {vs : List V} (e : Ex H H') (h : AllP Ps vs H) : AllP Ps vs H' := ⟨h.1, fun i v P h1 h2 => m P (List.mem_of_getElem? h2) v H H' e (h.2 i v P h1 h2)⟩
theorem eal_nil : EvAP tNil σ H (AllP []) := fun H1 e Q q => q [] H1 (Ex.refl H1) AllP.nil
theorem eal_cons {P : V → Hp → Prop} {Ps : List (V → Hp → Prop)} (m : MonP P) (h : EvP te σ H P) (hr : EvAP tr σ H (AllP Ps)) : EvAP (tCons te tr) σ H (AllP (P :: Ps)) := fun H1 e Q q =>
  h H1 e _ fun v H2 e2 p => hr H2 (e.trans e2) _ fun vs H3 e3 ps => q _ H3 (e2.trans e3) (AllP.cons (m v _ _ e3 p) ps)
end
end TC
set_option maxHeartbeats 2000000
/-! A comprehension that calls lambdas: the greater base; a judgement in which only the tables change. -/
namespace TC
open PySem PySem.Spec PyProof.Rows L2 LamX Evl
/-- what is known of the greater base -/
structure BaseOk (X : Cx) (σ : L2.St) (B : Heap) : Prop where
  mod : L2.Mod X.K X.mg B
  val : ∀ (i : Nat) x v, X.N[i]? = some x → σ[i]? = some (some v) → X.env.scope.names.lookup x = some .cell → ∃ c u, X.env.cells.lookup x = some c ∧ B.IsCell c (some u) ∧ RelV v u
theorem baseOk_of {X : Cx} {pins : List (Addr × Obj)} {σ : L2.St} {H : Hp} {s : Shared} {B : Heap} (I : Inv X pins σ H s) (b : Based X s H B) : BaseOk X σ B := by
  refine ⟨b.mod, fun i x v h1 h2 h3 => ?_⟩
  obtain ⟨m, hn, hl⟩ := I.loc
  obtain ⟨u, r, lk⟩ := hl i x v h1 h2 (.inr (.inl h3))
  rcases lk with ⟨z, _⟩ | ⟨_, c, hc, hi⟩
  · have z' : X.env.scope.names.lookup x = some .local := z
    rw [h3] at z'; cases z'
  · exact ⟨c, u, hc, b.cell x c _ hc hi, r⟩
theorem cellsIn1 {B : Heap} {scope : Scope} {x : Str} {c : Addr} {u : Value} {v : V} (h : B.IsCell c (some u)) (r : RelV v u) (hx : ∀ y, scope.names.lookup y = some .free → y = x) : CellsIn B [(x, c)] scope [x] [some v] := by
  have look : ∀ y d, List.lookup y [(x, c)] = some d → y = x ∧ d = c := fun y d e => by
    rw [List.lookup_cons] at e
    cases q : (y == x) with
    | true => rw [q] at e; cases e; exact ⟨eq_of_beq q, rfl⟩
    | false => rw [q] at e; cases e
  have at_ : List.lookup x [(x, c)] = some c := by rw [List.lookup_cons]; simp
  refine ⟨fun y z d h1 h2 => by rw [(look y d h1).1, (look z d h2).1], fun y hy => ⟨c, by rw [hx y hy]; exact at_⟩, fun y d h1 => ⟨some u, by rw [(look y d h1).2]; exact h⟩, fun i y v' e1 e2 _ => ?_, rfl⟩
  cases i with
  | zero => cases e1; cases e2; exact ⟨c, u, at_, h, r⟩
  | succ i => cases e1
section
variable {X : Cx} {pins : List (Addr × Obj)} {σ : L2.St} {H : Hp} {s : Shared} {B : Heap} {k : Nat} {f : Addr} {fd : FuncData} {ps : List Str} {sp : Sp} {x : Str} {p pos : Pos} {e : Expr} {es : List Expr} {t : TA} {scope : Scope} {cenv : Env} {fp : List Addr}
/-- in a comprehension: a call of a def that stands over the greater base -/
theorem pe_callGB (b : Based X s H B) (hfp : ∀ a ∈ fp, FpOk X pins H a) (F : FnG X.prog X.w X.K X.mg B CX0 k f fd ps sp) (hr : Room k X.A) (hgd : X.A.guards = some []) (hg : Gl (X.blk s H scope cenv fp) x) (hm : X.mg x = some (.ref f)) (hk : PySem.W.keepIn X.K (.ref f) = true) (hb : Binds X.K fd ps []) (ha : PA (X.blk s H scope cenv fp) (e :: es) t) (hdb : (x == ("__debug__" : Str)) = false := by decide)
    (he : starEach (e :: es) (X.blk s H scope cenv fp).env = (false, eval e (X.blk s H scope cenv fp).env) :: starEach es (X.blk s H scope cenv fp).env := by rfl) (hpl : (backTo pos (starEach es (X.blk s H scope cenv fp).env)).any (·.1) = false := by rfl) : PE (X.blk s H scope cenv fp) (.Call (.Name x p) (e :: es) [] pos) (tCall sp [] E0 t) := by
  refine ⟨fun pins1 s1 σ1 H1 Q I h => ?_⟩
  refine wpAny_Call_Name_kw (ld_glob I hg hm ?_ hdb)
  refine PySem.W.callWith_K (h₀ := (X.blk s H scope cenv fp).base) I.ok.mod.kin hk (thn (ha.run pos pins1 s1 σ1 H1 _ I h) fun us s2 ⟨vs, H2, I2, r, q⟩ => ⟨I2.kIn, ?_⟩) he hpl
  have q' : sp vs H2 Q E0 := by
    have q2 : sp (vs ++ []) H2 Q E0 := q
    rw [List.append_nil] at q2
    exact q2
  have hl : (us ++ []).length = ps.length := by rw [List.append_nil, ← r.length]; exact F.len _ _ _ _ q'
  have hbind := hb s2 us I2.kIn hl
  rw [List.append_nil] at hbind
  refine wpAny_call (codeAny_mono (F.run X.A X.stack s2 H2 ⟨us, []⟩ us vs Q E0 hr hgd (b.env0 hfp I2) hbind r q') fun r' s' q => ?_)
  cases r' with
  | error er => exact False.elim q
  | ok fl =>
    cases fl with
    | ret u => exact I2.after q
    | next => exact False.elim q
    | brk => exact False.elim q
    | cont => exact False.elim q
end
/-! ### only tables change -/
section
variable {TT : List (Addr × Str)} {K : PySem.W.Frag} {σ : L2.St} {H H' : Hp} {te tx : TE} {ta tr : TA} {P R : V → Hp → Prop}
def noTbl (H : Hp) : Hp := fun a => match H a with
  | some (.tbl _) => none
  | o => o
theorem noTbl_of {a : Addr} {o : HO} (h : H a = some o) (n : ∀ ps, o ≠ .tbl ps) : noTbl H a = some o := by
  unfold noTbl
  rw [h]
  cases o <;> first | rfl | exact absurd rfl (n _)
theorem of_noTbl {a : Addr} {o : HO} (h : noTbl H a = some o) : H a = some o ∧ ∀ ps, o ≠ .tbl ps := by
  unfold noTbl at h
  cases q : H a with
  | none => rw [q] at h; cases h
  | some u =>
    rw [q] at h
    cases u <;> first | (cases h; exact ⟨rfl, fun ps z => nomatch z⟩) | cases h
theorem ExtN.ex (e : ExtN H H') : Ex (noTbl H) H' := fun a o h => let ⟨h1, h2⟩ := of_noTbl h; e a o h1 h2
theorem Ex.extN (e : Ex H H') : ExtN H H' := fun a o h _ => e a o h
def MonN (P : V → Hp → Prop) : Prop := ∀ v H H', ExtN H H' → P v H → P v H'
def EvN (TT : List (Addr × Str)) (te : TE) (σ : L2.St) (H : Hp) (P : V → Hp → Prop) : Prop := ∀ H1, ExtN H H1 → Tabs TT H1 → ∀ Q : VK, (∀ v H2, ExtN H1 H2 → Tabs TT H2 → P v H2 → Q v H2) → te σ H1 Q
def EvAN (TT : List (Addr × Str)) (ta : TA) (σ : L2.St) (H : Hp) (P : List V → Hp → Prop) : Prop := ∀ H1, ExtN H H1 → Tabs TT H1 → ∀ Q : List V → Hp → Prop, (∀ vs H2, ExtN H1 H2 → Tabs TT H2 → P vs H2 → Q vs H2) → ta σ H1 Q
theorem EvP.n (h : EvP te σ (noTbl H) P) : EvN TT te σ H P := fun H1 e t Q q => h H1 (ExtN.ex e) Q fun v H2 e2 p => q v H2 (Ex.extN e2) (t.ext e2) p
def AllN (Ps : List (V → Hp → Prop)) (vs : List V) (H : Hp) : Prop := vs.length = Ps.length ∧ ∀ (i : Nat) v P, vs[i]? = some v → Ps[i]? = some P → P v H
theorem ean_nil : EvAN TT tNil σ H (AllP []) := fun H1 e t Q q => q [] H1 (ExtN.refl H1) t AllP.nil
theorem ean_cons {Ps : List (V → Hp → Prop)} (m : MonN P) (h : EvN TT te σ H P) (hr : EvAN TT tr σ H (AllP Ps)) : EvAN TT (tCons te tr) σ H (AllP (P :: Ps)) := fun H1 e t Q q =>
  h H1 e t _ fun v H2 e2 t2 p => hr H2 (e.trans e2) t2 _ fun vs H3 e3 t3 ps => q _ H3 (e2.trans e3) t3 (AllP.cons (m v _ _ e3 p) ps)
theorem en_tup {Ps : List (V → Hp → Prop)} (m : ∀ P ∈ Ps, MonN P) (h : EvAN TT ta σ H (AllP Ps)) (hl : Ps.length ≤ 100000) : EvN TT (tTup ta) σ H (fun v H1 => ∃ a vs, v = .ref a ∧ H1 a = some (.tup vs) ∧ AllP Ps vs H1) := fun H1 e t Q q =>
  h H1 e t _ fun vs H2 e2 t2 p => ⟨sz_of (by rw [p.1]; exact hl), fun a ha => q _ _ (e2.trans (Ex.extN (Ex.new ha))) (t2.ext (Ex.new ha)) ⟨a, vs, rfl, upd_same, p.1, fun i v P h1 h2 => m P (List.mem_of_getElem? h2) v _ _ (Ex.extN (Ex.new ha)) (p.2 i v P h1 h2)⟩⟩
theorem en_lst {Ps : List (V → Hp → Prop)} (m : ∀ P ∈ Ps, MonN P) (h : EvAN TT ta σ H (AllP Ps)) (hl : Ps.length ≤ 100000) : EvN TT (tLst ta) σ H (fun v H1 => ∃ a vs, v = .ref a ∧ H1 a = some (.lst vs) ∧ AllP Ps vs H1) := fun H1 e t Q q =>
  h H1 e t _ fun vs H2 e2 t2 p => ⟨sz_of (by rw [p.1]; exact hl), fun a ha => q _ _ (e2.trans (Ex.extN (Ex.new ha))) (t2.ext (Ex.new ha)) ⟨a, vs, rfl, upd_same, p.1, fun i v P h1 h2 => m P (List.mem_of_getElem? h2) v _ _ (Ex.extN (Ex.new ha)) (p.2 i v P h1 h2)⟩⟩
/-- the word of a lambda -/
def LamW (q : Str) (params : Arguments) (body : Expr) (scope : Scope) (cl : List (Str × Addr)) : V → Hp → Prop := fun v H => ∃ f c, v = .ref f ∧ H f = some (LamO f q params body scope cl c) ∧ H c = some (CodeO c q)
theorem lamO_ne {f : Addr} {q : Str} {params : Arguments} {body : Expr} {scope : Scope} {cl : List (Str × Addr)} {c : Addr} : ∀ ps, LamO f q params body scope cl c ≠ .tbl ps := fun ps z => nomatch z
theorem monN_lam {q : Str} {params : Arguments} {body : Expr} {scope : Scope} {cl : List (Str × Addr)} : MonN (LamW q params body scope cl) := fun v H H' e ⟨f, c, h1, h2, h3⟩ => ⟨f, c, h1, e _ _ h2 lamO_ne, e _ _ h3 codeO_ne⟩
theorem en_lam {q : Str} {params : Arguments} {body : Expr} {scope : Scope} {cl : List (Str × Addr)} : EvN TT (tLamb TT q params body scope cl) σ H (LamW q params body scope cl) := fun H1 e t Q q' =>
  ⟨t, fun f c H2 e2 nf t2 hc => q' _ _ (e2.trans (Ex.extN (Ex.new nf))) (t2.ext (Ex.new nf)) ⟨f, c, rfl, upd_same, (Ex.new nf) _ _ hc⟩⟩
theorem MonN.of (h : ∀ v H H', Ex (noTbl H) H' → P v H → P v H') : MonN P := fun v H H' e p => h v H H' (ExtN.ex e) p
theorem sqL_tbl {a : Addr} {xs : List V} (h : SqL K H a xs) : SqL K (noTbl H) a xs := by
  rcases h with (h | ⟨o, h⟩) | h
  · exact .inl (.inl (noTbl_of h (fun ps z => nomatch z)))
  · exact .inl (.inr ⟨o, noTbl_of h (fun ps z => nomatch z)⟩)
  · exact .inr h
theorem sqT_tbl {a : Addr} {xs : List V} (h : SqT K H a xs) : SqT K (noTbl H) a xs := by
  rcases h with (h | ⟨o, h⟩) | h
  · exact .inl (.inl (noTbl_of h (fun ps z => nomatch z)))
  · exact .inl (.inr ⟨o, noTbl_of h (fun ps z => nomatch z)⟩)
  · exact .inr h
mutual
theorem Dp.tbl : ∀ {d : PyData} {v : V}, Dp K H v d → Dp K (noTbl H) v d
  | _, _, .non => .non
  | _, _, .bl b => .bl b
  | _, _, .int i => .int i
  | _, _, .str z => .str z
  | _, _, .lst h a => .lst (sqL_tbl h) (DpAll.tbl a)
  | _, _, .tup h a => .tup (sqT_tbl h) (DpAll.tbl a)
theorem DpAll.tbl : ∀ {ds : List PyData} {vs : List V}, DpAll K H vs ds → DpAll K (noTbl H) vs ds
  | _, _, .nil => .nil
  | _, _, .cons h a => .cons (Dp.tbl h) (DpAll.tbl a)
end
theorem monN_D {d : PyData} : MonN (fun v H => Dp K H v d) := .of fun v H H' e h => Dp.ex e (Dp.tbl h)
end
end TC
set_option maxHeartbeats 2000000
/-! The end of a law whose def has one table of code objects, where no repr is under way. -/
namespace TC
open PySem PySem.Spec PyProof.Rows L2 LamX
section
variable {P : Program} {w : World} {K : PySem.W.Frag} {mg mb : Str → Option Value} {CX : CXT} {k : Nat} {fa a c T : Addr} {fd : FuncData} {x : Str} {sp : Sp} {s₁ : Shared} {vs : List Value} {ns : List Int}
/-- what is asked of the abstract heap at the law's call: its table, the script, nothing else -/
structure Ready (K : PySem.W.Frag) (P : Program) (w : World) (a T : Addr) (ns : List Int) (h : Heap) (H : Hp) : Prop where
  tab : H T = some (.tbl #[])
  scr : SqL K H a (ns.map V.int)
  ok : HOk P w H h
  few : ∀ b, H b ≠ none → b = a ∨ b = T
  kind : ∀ b, H b = none ∨ b = T ∨ ∃ o xs, H b = some (.frz o (.lst xs))
  free : H a ≠ none → K.lookup a = none
theorem ready_of (KX : K.In s₁.heap) (hT : s₁.heap.get? T = some { cls := .none, data := .fields #[] }) (ha : s₁.heap.get? a = some { cls := .type "list", data := .seq vs.toArray }) (hi : IntsAre vs ns) (hl : ns.length ≤ sizeLine) : ∃ H, Ready K P w a T ns s₁.heap H := by
  have rv := vals_ints hi
  have lenV := hi.length
  have aT : a ≠ T := fun z => by
    rw [z, hT] at ha
    have z' := congrArg Obj.data (Option.some.inj ha)
    cases z'
  cases hk : K.lookup a with
  | some o =>
    have e := KX a o hk
    rw [ha] at e
    cases e
    refine ⟨fun b => if b = T then some (.tbl #[]) else none, if_pos rfl, .inr ⟨_, vs.toArray, _, hk, rfl, rfl, rfl, by rw [List.size_toArray, lenV]; exact hl, by simpa using rv⟩, fun b u z => ?_, fun b z => ?_, fun b => ?_, fun z => absurd (if_neg aT) z⟩
    · by_cases hb : b = T
      · cases (if_pos hb).symm.trans z
        rw [hb]; exact hT
      · cases (if_neg hb).symm.trans z
    · by_cases hb : b = T
      · exact .inr hb
      · exact absurd (if_neg hb) z
    · by_cases hb : b = T
      · exact .inr (.inl hb)
      · exact .inl (if_neg hb)
  | none =>
    refine ⟨fun b => if b = a then some (.frz { cls := .type "list", data := .seq vs.toArray } (.lst (ns.map V.int))) else if b = T then some (.tbl #[]) else none, (if_neg (Ne.symm aT)).trans (if_pos rfl), .inl (.inr ⟨{ cls := .type "list", data := .seq vs.toArray }, if_pos rfl⟩), fun b u z => ?_, fun b z => ?_, fun b => ?_, fun _ => hk⟩
    · by_cases hb : b = a
      · cases (if_pos hb).symm.trans z
        rw [hb]
        exact ⟨ha, by rw [List.length_map]; exact hl, vs, _, rv, ha⟩
      · have z1 := (if_neg hb).symm.trans z
        by_cases hb2 : b = T
        · cases (if_pos hb2).symm.trans z1
          rw [hb2]; exact hT
        · cases (if_neg hb2).symm.trans z1
    · by_cases hb : b = a
      · exact .inl hb
      · by_cases hb2 : b = T
        · exact .inr hb2
        · exact absurd ((if_neg hb).trans (if_neg hb2)) z
    · by_cases hb : b = a
      · exact .inr (.inr ⟨_, _, if_pos hb⟩)
      · by_cases hb2 : b = T
        · exact .inr (.inl hb2)
        · exact .inl ((if_neg hb).trans (if_neg hb2))
theorem law_callG (KX : K.In s₁.heap) (hns : s₁.heap.Ns mainGlobals mg) (hb : s₁.heap.Ns builtinsNs mb) (hbb : ∀ x : Str, x ≠ "__name__" → mb x = bootBuiltins x) (hlim : s₁.heap.NoLimit) (hg : s₁.gens = #[])
    (hT : s₁.heap.get? T = some { cls := .none, data := .fields #[] }) (nT : K.lookup T = none) (C : PySem.W.CodeHd s₁.heap c T)
    (hbm : ∃ (bm : Addr) (ob : Obj), mg "__builtins__" = some (.ref bm) ∧ bm ≠ builtinsNs ∧ s₁.heap.get? bm = some ob ∧ ob.cls = .type "module" ∧ ob.dict = some builtinsNs ∧ ob.data = .plain)
    (ha : s₁.heap.get? a = some { cls := .type "list", data := .seq vs.toArray }) (hi : IntsAre vs ns) (hl : ns.length ≤ sizeLine) (hr : Room k callerA)
    (F : ∀ base : Heap, K.In base → base.Ns mainGlobals mg → TabB base mg c T → FnG P w K mg base CX k fa fd [x] sp) (hbind : ∀ (s : Shared) (u : Value), BindsTo s fd ⟨[u], []⟩ [(x, u)])
    (hsp : ∀ H : Hp, H T = some (.tbl #[]) → SqL K H a (ns.map V.int) → sp [.ref a] H (fun v _ => v = .bl true) fun _ _ _ => False)
    (hCX : ∀ H e s', CX [] H s₁ (fun _ _ _ => False) e s' → False) :
    codeAny (model P w) callerA (.call (.ref fa) ⟨[.ref a], []⟩) (fun r s' => r = .ok (.ret (.bool true)) ∧ OldK s₁.heap s'.heap ∧ s'.os = s₁.os ∧ AllBare s'.gens) s₁ := by
  obtain ⟨H, R⟩ := ready_of (P := P) (w := w) KX hT ha hi hl
  have put : ∀ {b : Addr} {o : Obj}, s₁.heap.get? b = some o → H b = none → (hidT s₁.heap H).get? b = some o := fun e n => hidT_get e n
  -- an object that is neither the script nor the table
  have off : ∀ {b : Addr} {o : Obj}, s₁.heap.get? b = some o → (∀ vs n, o.data ≠ .seq vs n) → o.data ≠ .fields #[] → H b = none := fun {b o} e h1 h2 => by
    cases q : H b with
    | none => rfl
    | some u =>
      rcases R.few b (by rw [q]; simp) with z | z
      · rw [z, ha] at e; cases e; exact (h1 _ _ rfl).elim
      · rw [z, hT] at e; cases e; exact (h2 rfl).elim
  have offD : ∀ {b : Addr} {o : Obj} {es : Array DictEntry} {ep : Nat}, s₁.heap.get? b = some o → o.data = .dict es ep → H b = none := fun {b o es ep} e d => off e (fun vs n z => by rw [d] at z; cases z) (fun z => by rw [d] at z; cases z)
  have nsK : ∀ {b : Addr} {m : Str → Option Value}, s₁.heap.Ns b m → (hidT s₁.heap H).Ns b m := fun {b m} ⟨o, es, ep, e, d, r⟩ => ⟨o, es, ep, put e (offD e d), d, r⟩
  have KB : K.In (hidT s₁.heap H) := fun b o e => put (KX b o e) (by
    cases q : H b with
    | none => rfl
    | some u =>
      rcases R.few b (by rw [q]; simp) with z | z
      · rw [z] at e q
        rw [R.free (by rw [q]; simp)] at e
        cases e
      · rw [z, nT] at e; cases e)
  have M : L2.Mod K mg (hidT s₁.heap H) := ⟨KB, nsK hns, ⟨mb, nsK hb, hbb⟩, let ⟨mc, h1, h2⟩ := hlim; ⟨mc, nsK h1, h2⟩⟩
  have TB : TabB (hidT s₁.heap H) mg c T := by
    refine ⟨?_, ?_, fun z => ?_⟩
    · obtain ⟨o, us, file, tf, flags, tg, inF, text, tt, e1, r1, r2, r3, r4, r5, r6, r7, r8, hne⟩ := C
      refine ⟨o, us, file, tf, flags, tg, inF, text, tt, put e1 (off e1 (fun vs n z => ?_) fun z => ?_), r1, r2, r3, r4, r5, r6, r7, r8, hne⟩
      · rw [r2] at z; cases z
      · rw [r2] at z; cases z; simp at r3
    · obtain ⟨bm, ob, b1, b2, b3, b4, b5, b6⟩ := hbm
      have nG : bm ≠ mainGlobals := fun q => by
        obtain ⟨o, es, ep, e, hd, _⟩ := hns
        rw [q, e] at b3; cases b3; rw [hd] at b6; cases b6
      have nP : bm ≠ T := fun q => by
        rw [q, hT] at b3; cases b3; cases b6
      exact ⟨bm, ob, b1, b2, nG, nP, put b3 (off b3 (fun vs n z => by rw [b6] at z; cases z) fun z => by rw [b6] at z; cases z), b4, b5, b6⟩
    · obtain ⟨o, es, ep, e, hd, _⟩ := hns
      rw [z, hT] at e; cases e; cases hd
  have e0 : Env0 P w K mg (hidT s₁.heap H) callerA [] s₁ H := ⟨rfl, M, fun b o e => of_hidT e, Nat.le_of_eq (hidT_size _ _), trivial, fun b hb => absurd (show b ∈ ([] : List Addr) from hb) (by simp), R.ok, .of_eq hg⟩
  refine codeAny_mono ((F _ KB (nsK hns) TB).run callerA [] s₁ H ⟨[.ref a], []⟩ [.ref a] [.ref a] _ _ hr rfl e0 (hbind s₁ (.ref a)) (.cons rfl .nil) (hsp H R.tab R.scr)) fun r s' h => ?_
  cases r with
  | error e => exact (hCX H e s' h).elim
  | ok fl =>
    cases fl with
    | next => exact False.elim h
    | brk => exact False.elim h
    | cont => exact False.elim h
    | ret u =>
      obtain ⟨v, H', os, bare, un, hok', r', q⟩ := h
      have q' : v = .bl true := q
      subst q'
      obtain rfl : u = Value.bool true := r'
      have stay : ∀ b o, b ≠ T → s₁.heap.get? b = some o → s'.heap.get? b = some o := fun b o nb e => by
        rcases R.kind b with z | z | ⟨ob, xs, z⟩
        · exact un.keep b o e z (by intro y; exact absurd (show b ∈ ([] : List Addr) from y) (by simp)) (by simp)
        · exact absurd z nb
        · have z2 := un.frzs b ob _ z
          obtain ⟨e1, _⟩ := R.ok b _ z
          obtain ⟨e2, _⟩ := hok' b _ z2
          rw [e] at e1; cases e1
          exact e2
      obtain ⟨more, z⟩ := un.tbls T #[] R.tab
      have grown : ∃ more : Array Value, s'.heap.get? T = some { cls := .none, data := .fields more } := ⟨_, hok' T _ z⟩
      obtain ⟨m2, hm⟩ := grown
      refine ⟨rfl, ⟨fun b o e => ?_, fun b o e => ?_⟩, os, bare⟩
      · by_cases hb : b = T
        · rw [hb] at e ⊢
          rw [hT] at e; cases e
          exact .inr (.inl ⟨(C.tab hT).isCodeTable, rfl, #[], m2, rfl, by rw [Array.empty_append]; exact hm⟩)
        · exact .inl (stay b o hb e)
      · by_cases hb : b = T
        · rw [hb]; exact ⟨_, hm⟩
        · exact ⟨o, stay b o hb e⟩
end
theorem walk_G {l : PySem.W.OpenLaw} {n k : Nat} {q : Program} {loose : List Str} {XP : (Str → Option Value) → Heap → Prop} {YP : World → Heap → Prop} {d : DefRec} {CX : World → CXT} {x : Str}
    (hn : l.most = some n) (hn2 : n ≤ sizeLine) (hdf : d.params.defaults = []) (hr : Room k callerA)
    (F : ∀ (w : World) (mg : Str → Option Value) (fa : Addr) (h : Heap), YP w h → h.Ns mainGlobals mg → mg d.name = some (.ref fa) → ∃ (K : PySem.W.Frag) (fd : FuncData) (c T : Addr) (sp : Sp), K.In h ∧ h.get? T = some { cls := .none, data := .fields #[] } ∧ K.lookup T = none ∧ PySem.W.CodeHd h c T ∧ (∀ (s : Shared) (u : Value), BindsTo s fd ⟨[u], []⟩ [(x, u)]) ∧
      (∀ (H : Hp) (a : Addr) (ns : List Int), ns.length ≤ n → H T = some (.tbl #[]) → SqL K H a (ns.map V.int) → sp [.ref a] H (fun v _ => v = .bl true) fun _ _ _ => False) ∧
      ∀ base : Heap, K.In base → base.Ns mainGlobals mg → TabB base mg c T → FnG l.prog w K mg base (CX w) k fa fd [x] sp)
    (hCX : ∀ (w : World) (H : Hp) (s : Shared) (e : Value) (s' : Shared), CX w [] H s (fun _ _ _ => False) e s' → False) :
    PySem.W.WalkO q loose XP YP l.row.toRowW d [] (fun f vs => PySem.call f vs) := by
  refine Att.attach_callB hn hdf fun w s₀ s₁ mg mb fa o pm cd doc a vs ns G Y ho hd hcd hmg hobj hints hlen hbits hg => ?_
  obtain ⟨K, fd, c, T, sp, KX, hT, nT, C, hb, hsp, hF⟩ := F w mg fa _ Y G.T.g hmg
  exact law_callG KX G.T.g G.T.b G.T.builtins G.T.nolimit hg hT nT C G.T.bmain hobj hints (Nat.le_trans hlen hn2) hr hF hb (fun H hH hS => hsp H a ns hlen hH hS) fun H e s' => hCX w H s₁ e s'
end TC
set_option maxHeartbeats 2000000
/-! zip of two rows, each a list or a tuple. -/
namespace TC
open PySem PySem.Spec PyProof.Rows L2 RZ
/-- an iterator over a tuple (true) or a list (false) -/
def KIt (b : Bool) (h : Heap) (it l : Addr) (k : Nat) : Prop := (b = true ∧ h.IsTupleIter it l k) ∨ (b = false ∧ h.IsListIter it l k)
def KSq (b : Bool) (h : Heap) (l : Addr) (xs : Array Value) : Prop := (b = true ∧ h.IsTuple l xs) ∨ (b = false ∧ h.IsList l xs)
theorem KIt.ext {b : Bool} {h h' : Heap} {c it l : Addr} {k : Nat} (x : KIt b h it l k) (e : Heap.ExtBut c h h') (n : it ≠ c) : KIt b h' it l k := x.imp (fun z => ⟨z.1, z.2.extBut e n⟩) (fun z => ⟨z.1, z.2.extBut e n⟩)
theorem KSq.ext {b : Bool} {h h' : Heap} {c l : Addr} {xs : Array Value} (x : KSq b h l xs) (e : Heap.ExtBut c h h') (n : l ≠ c) : KSq b h' l xs := x.imp (fun z => ⟨z.1, z.2.extBut e n⟩) (fun z => ⟨z.1, z.2.extBut e n⟩)
theorem KIt.at_ {b : Bool} {h h' : Heap} {it l : Addr} {k : Nat} (x : KIt b h it l k) (e : ∀ o, h.get? it = some o → h'.get? it = some o) : KIt b h' it l k := x.imp (fun z => ⟨z.1, z.2.at e⟩) (fun z => ⟨z.1, z.2.at e⟩)
theorem KIt.lt {b : Bool} {h : Heap} {it l : Addr} {k : Nat} (x : KIt b h it l k) : it < h.objs.size := by
  rcases x with ⟨_, _, e, _⟩ | ⟨_, _, e, _⟩ <;> exact Heap.lt_size e
section
variable {prog : Program} {w : World} {A : Around} {E : Value → Shared → Prop} {s : Shared}
theorem kNext {b : Bool} {it l : Addr} {i : Nat} {xs : Array Value} {x : Value} {Q : Value → Shared → Prop} (hi : KIt b s.heap it l i) (hl : KSq b s.heap l xs) (hx : xs[i]? = some x)
    (hQ : ∀ h', KIt b h' it l (i + 1) → Heap.SameBut it s.heap h' → Q x { s with heap := h' }) : wpAny (model prog w) A (Builtin.SmallTypes.nextOf (.ref it)) Q E s := by
  rcases hi with ⟨hb, hi⟩ | ⟨hb, hi⟩ <;> rcases hl with ⟨hc, hl⟩ | ⟨hc, hl⟩ <;> try (rw [hb] at hc; cases hc)
  · exact nextOf_tuple_item hi hl hx fun h' z => hQ h' (.inl ⟨hb, z⟩)
  · exact wpAny_nextOf_list_item hi hl hx fun h' z => hQ h' (.inr ⟨hb, z⟩)
theorem kStop {b : Bool} {it l : Addr} {i : Nat} {xs : Array Value} {Q : Value → Shared → Prop} (hh : A.handled = none) (hi : KIt b s.heap it l i) (hl : KSq b s.heap l xs) (hx : xs[i]? = none)
    (hE : ∀ h' e, Heap.ExtBut it s.heap h' → (∃ o, h'.get? e = some o ∧ o.cls = .type "StopIteration") → E (.ref e) { s with heap := h' }) : wpAny (model prog w) A (Builtin.SmallTypes.nextOf (.ref it)) Q E s := by
  rcases hi with ⟨hb, hi⟩ | ⟨hb, hi⟩ <;> rcases hl with ⟨hc, hl⟩ | ⟨hc, hl⟩ <;> try (rw [hb] at hc; cases hc)
  · exact nextOf_tuple_end hh hi hl hx hE
  · exact wpAny_nextOf_list_end hh hi hl hx hE
/-- a turn of zip where both rows have an item -/
theorem zipK_item {b1 b2 : Bool} {z TI TO i1 i2 l1 l2 : Addr} {k1 k2 : Nat} {xs ys : Array Value} {x y u v : Value} {Q : Value → Shared → Prop} (D : ZipApart z TI TO i1 i2 l1 l2) (hz : IsZip s.heap z TI TO .none) (hI : IsPair s.heap TI (.ref i1) (.ref i2)) (hO : IsPair s.heap TO u v)
    (g1 : KIt b1 s.heap i1 l1 k1) (g2 : KIt b2 s.heap i2 l2 k2) (q1 : KSq b1 s.heap l1 xs) (q2 : KSq b2 s.heap l2 ys) (ex : xs[k1]? = some x) (ey : ys[k2]? = some y)
    (hQ : ∀ h', IsZip h' z TI TO (rawInt s.heap.objs.size) → IsPair h' TO x y → KIt b1 h' i1 l1 (k1 + 1) → KIt b2 h' i2 l2 (k2 + 1) → IsPair h' s.heap.objs.size x y → h'.objs.size = s.heap.objs.size + 1 →
      (∀ c o, c ≠ z ∧ c ≠ TO ∧ c ≠ i1 ∧ c ≠ i2 → s.heap.get? c = some o → h'.get? c = some o) → Q (.ref s.heap.objs.size) { s with heap := h' }) : wpAny (model prog w) A (Builtin.«zip.__next__» ⟨[.ref z], []⟩) (fun fin s' => ∃ r, fin = .done (.ret r) ∧ Q r s') E s := by
  show wpAny _ _ (field (.ref z) 2 >>= _) _ _ _
  refine wpAny_bind (wpAny_field hz rfl (x := .bool false) rfl (show wpAny _ _ (field (.ref z) 3 >>= _) _ _ _ from wpAny_bind (wpAny_field hz rfl (x := .ref TI) rfl (wpAny_bind (wpAny_seqItems hI rfl (show wpAny _ _ (Builtin.SmallTypes.ownedTupleIsFree (.ref z) >>= _) _ _ _ from wpAny_bind ?_))))))
  unfold Builtin.SmallTypes.ownedTupleIsFree
  refine wpAny_bind (wpAny_field hz rfl (x := .none) rfl (wpAny_pure ?_))
  rw [if_pos rfl]
  refine wpAny_bind (wpAny_rule (wpAny_bind (wpAny_field hz rfl (x := .ref TO) rfl (wpAny_bind (wpAny_setField_rec hz (by simp) fun p1 z1 t1 => ?_)))))
  have z1' : IsZip p1 z TI TO .ellipsis := z1
  have e1 := t1.extBut
  refine wpAny_bind ?_
  simp only [List.zipIdx_cons, List.zipIdx_nil, List.forIn_cons, List.forIn_nil]
  refine wpAny_bind (wpAny_bind (wpAny_onRaise (show wpAny _ _ (Builtin.SmallTypes.nextOf (.ref i1) >>= _) _ _ _ from wpAny_bind (kNext (g1.ext e1 D.i1z) (q1.ext e1 D.l1z) ex fun p2 j1 t2 => wpAny_pure ?_))))
  have e2 := t2.extBut
  have O2 : IsPair p2 TO u v := e2 _ _ D.TOi1 (e1 _ _ D.TOz hO)
  refine wpAny_bind (wpAny_seqItems O2 rfl (wpAny_bind (wpAny_updateSeq_pair O2 fun p3 O3 t3 => wpAny_bind (wpAny_letGo (wpAny_pure ?_)))))
  have O3' : IsPair p3 TO x v := O3
  have e3 := t3.extBut
  refine wpAny_bind (wpAny_bind (wpAny_onRaise (show wpAny _ _ (Builtin.SmallTypes.nextOf (.ref i2) >>= _) _ _ _ from wpAny_bind (kNext (((g2.ext e1 D.i2z).ext e2 D.i12.symm).ext e3 D.TOi2.symm) (((q2.ext e1 D.l2z).ext e2 D.l2i1).ext e3 D.l2TO) ey fun p4 j2 t4 => wpAny_pure ?_))))
  have e4 := t4.extBut
  have O4 : IsPair p4 TO x v := e4 _ _ D.TOi2 O3'
  refine wpAny_bind (wpAny_seqItems O4 rfl (wpAny_bind (wpAny_updateSeq_pair O4 fun p5 O5 t5 => wpAny_bind (wpAny_letGo (wpAny_pure (wpAny_pure ?_))))))
  have O5' : IsPair p5 TO x y := O5
  have e5 := t5.extBut
  refine wpAny_bind (wpAny_seqItems O5' rfl (wpAny_bind (wpAny_newTuple ?_)))
  have sz : p5.objs.size = s.heap.objs.size := by rw [t5.1, t4.1, t3.1, t2.1, t1.1]
  have Z5 : IsZip p5 z TI TO .ellipsis := e5 _ _ D.TOz.symm (e4 _ _ D.i2z.symm (e3 _ _ D.TOz.symm (e2 _ _ D.i1z.symm z1')))
  have K5 : ∀ c o, c ≠ z ∧ c ≠ TO ∧ c ≠ i1 ∧ c ≠ i2 → s.heap.get? c = some o → p5.get? c = some o := fun c o n g => e5 _ _ n.2.1 (e4 _ _ n.2.2.2 (e3 _ _ n.2.1 (e2 _ _ n.2.2.1 (e1 _ _ n.1 g))))
  have J1 : KIt b1 p5 i1 l1 (k1 + 1) := ((j1.ext e3 D.TOi1.symm).ext e4 D.i12).ext e5 D.TOi1.symm
  have J2 : KIt b2 p5 i2 l2 (k2 + 1) := j2.ext e5 D.TOi2.symm
  have zl : z < p5.objs.size := Heap.lt_size Z5
  refine show wpAny _ _ (Builtin.SmallTypes.ownedTupleHandOut (.ref z) (.ref p5.objs.size) >>= _) _ _ _ from wpAny_bind ?_
  unfold Builtin.SmallTypes.ownedTupleHandOut
  have Z6 : IsZip (p5.push { cls := .type "tuple", data := .seq #[x, y] }) z TI TO .ellipsis := Heap.get?_push_of_some _ Z5
  refine wpAny_bind (wpAny_setField_rec Z6 (by simp) fun p7 Z7 t7 => wpAny_setField_rec (show IsZip p7 z TI TO (rawInt p5.objs.size) from Z7) (by simp) fun p8 Z8 t8 => ?_)
  have Z8' : IsZip p8 z TI TO (rawInt p5.objs.size) := Z8
  have up : ∀ c o, c ≠ z → p5.get? c = some o → p8.get? c = some o := fun c o n g => t8.extBut _ _ n (t7.extBut _ _ n (Heap.get?_push_of_some _ g))
  have N8 : IsPair p8 p5.objs.size x y := t8.extBut _ _ (Nat.ne_of_gt zl) (t7.extBut _ _ (Nat.ne_of_gt zl) (Heap.get?_push_size _ rfl))
  have S8 : p8.objs.size = p5.objs.size + 1 := by rw [t8.1, t7.1, Heap.size_push]
  rw [sz] at Z8' N8 S8
  refine wpAny_pure ⟨_, rfl, show Q (.ref p5.objs.size) _ from ?_⟩
  rw [sz]
  exact hQ p8 Z8' (up _ _ D.TOz O5') (J1.at_ fun o g => up _ o D.i1z g) (J2.at_ fun o g => up _ o D.i2z g) N8 S8 fun c o n g => up c o n.1 (K5 c o n g)
/-- a turn of zip where one row is at its end -/
theorem zipK_end {b1 b2 : Bool} {z TI TO i1 i2 l1 l2 : Addr} {k1 k2 : Nat} {xs ys : Array Value} {u v : Value} {Q : Fin → Shared → Prop} (hh : A.handled = none) (D : ZipApart z TI TO i1 i2 l1 l2) (hz : IsZip s.heap z TI TO .none) (hI : IsPair s.heap TI (.ref i1) (.ref i2)) (hO : IsPair s.heap TO u v)
    (g1 : KIt b1 s.heap i1 l1 k1) (g2 : KIt b2 s.heap i2 l2 k2) (q1 : KSq b1 s.heap l1 xs) (q2 : KSq b2 s.heap l2 ys) (hn : xs[k1]? = none ∨ ys[k2]? = none)
    (hE : ∀ h' e, (∀ c o, c ≠ z ∧ c ≠ TO ∧ c ≠ i1 ∧ c ≠ i2 → s.heap.get? c = some o → h'.get? c = some o) → (∃ o, h'.get? e = some o ∧ o.cls = .type "StopIteration") → E (.ref e) { s with heap := h' }) : wpAny (model prog w) A (Builtin.«zip.__next__» ⟨[.ref z], []⟩) Q E s := by
  show wpAny _ _ (field (.ref z) 2 >>= _) _ _ _
  refine wpAny_bind (wpAny_field hz rfl (x := .bool false) rfl (show wpAny _ _ (field (.ref z) 3 >>= _) _ _ _ from wpAny_bind (wpAny_field hz rfl (x := .ref TI) rfl (wpAny_bind (wpAny_seqItems hI rfl (show wpAny _ _ (Builtin.SmallTypes.ownedTupleIsFree (.ref z) >>= _) _ _ _ from wpAny_bind ?_))))))
  unfold Builtin.SmallTypes.ownedTupleIsFree
  refine wpAny_bind (wpAny_field hz rfl (x := .none) rfl (wpAny_pure ?_))
  rw [if_pos rfl]
  refine wpAny_bind (wpAny_rule (wpAny_bind (wpAny_field hz rfl (x := .ref TO) rfl (wpAny_bind (wpAny_setField_rec hz (by simp) fun p1 z1 t1 => ?_)))))
  have z1' : IsZip p1 z TI TO .ellipsis := z1
  have e1 := t1.extBut
  refine wpAny_bind ?_
  simp only [List.zipIdx_cons, List.zipIdx_nil, List.forIn_cons, List.forIn_nil]
  have off : ∀ {p : Heap} {e : Addr} {o : Obj}, IsZip p z TI TO .ellipsis → p.get? e = some o → o.cls = .type "StopIteration" → e ≠ z := fun {p e o} h1 h2 h3 q => by
    subst q; rw [h1] at h2; cases h2; simp at h3
  cases ex : xs[k1]? with
  | none =>
    refine wpAny_bind (wpAny_bind (wpAny_onRaise (show wpAny _ _ (Builtin.SmallTypes.nextOf (.ref i1) >>= _) _ _ _ from wpAny_bind (kStop hh (g1.ext e1 D.i1z) (q1.ext e1 D.l1z) ex fun p2 e t2 he => ?_))))
    obtain ⟨o, ho, hc⟩ := he
    have Z2 : IsZip p2 z TI TO .ellipsis := t2 _ _ D.i1z.symm z1'
    exact wpAny_setField_rec Z2 (by simp) fun p3 _ t3 => hE p3 e (fun c o' n g => t3.extBut _ _ n.1 (t2 _ _ n.2.2.1 (e1 _ _ n.1 g))) ⟨o, t3.extBut _ _ (off Z2 ho hc) ho, hc⟩
  | some x =>
    have ey : ys[k2]? = none := hn.resolve_left (fun q => by rw [ex] at q; cases q)
    refine wpAny_bind (wpAny_bind (wpAny_onRaise (show wpAny _ _ (Builtin.SmallTypes.nextOf (.ref i1) >>= _) _ _ _ from wpAny_bind (kNext (g1.ext e1 D.i1z) (q1.ext e1 D.l1z) ex fun p2 j1 t2 => wpAny_pure ?_))))
    have e2 := t2.extBut
    have O2 : IsPair p2 TO u v := e2 _ _ D.TOi1 (e1 _ _ D.TOz hO)
    refine wpAny_bind (wpAny_seqItems O2 rfl (wpAny_bind (wpAny_updateSeq_pair O2 fun p3 O3 t3 => wpAny_bind (wpAny_letGo (wpAny_pure ?_)))))
    have e3 := t3.extBut
    refine wpAny_bind (wpAny_bind (wpAny_onRaise (show wpAny _ _ (Builtin.SmallTypes.nextOf (.ref i2) >>= _) _ _ _ from wpAny_bind (kStop hh (((g2.ext e1 D.i2z).ext e2 D.i12.symm).ext e3 D.TOi2.symm) (((q2.ext e1 D.l2z).ext e2 D.l2i1).ext e3 D.l2TO) ey fun p4 e t4 he => ?_))))
    obtain ⟨o, ho, hc⟩ := he
    have Z4 : IsZip p4 z TI TO .ellipsis := t4 _ _ D.i2z.symm (e3 _ _ D.TOz.symm (e2 _ _ D.i1z.symm z1'))
    exact wpAny_setField_rec Z4 (by simp) fun p5 _ t5 => hE p5 e (fun c o' n g => t5.extBut _ _ n.1 (t4 _ _ n.2.2.2 (e3 _ _ n.2.1 (e2 _ _ n.2.2.1 (e1 _ _ n.1 g))))) ⟨o, t5.extBut _ _ (off Z4 ho hc) ho, hc⟩
end
end TC
set_option maxHeartbeats 2000000
/-! zip of two rows as an iterator of a walk. -/
namespace TC
open PySem PySem.Spec PyProof.Rows L2 RZ
section
variable {prog : Program} {w : World} {A : Around} {E : Value → Shared → Prop} {s : Shared}
theorem kpn_item {b1 b2 : Bool} {z TI TO i1 i2 l1 l2 : Addr} {k1 k2 : Nat} {xs ys : Array Value} {x y u v : Value} {Q : Option Value → Shared → Prop} (D : ZipApart z TI TO i1 i2 l1 l2) (hz : IsZip s.heap z TI TO .none) (hI : IsPair s.heap TI (.ref i1) (.ref i2)) (hO : IsPair s.heap TO u v)
    (g1 : KIt b1 s.heap i1 l1 k1) (g2 : KIt b2 s.heap i2 l2 k2) (q1 : KSq b1 s.heap l1 xs) (q2 : KSq b2 s.heap l2 ys) (ex : xs[k1]? = some x) (ey : ys[k2]? = some y)
    (hQ : ∀ h', IsZip h' z TI TO (rawInt s.heap.objs.size) → IsPair h' TO x y → KIt b1 h' i1 l1 (k1 + 1) → KIt b2 h' i2 l2 (k2 + 1) → IsPair h' s.heap.objs.size x y → h'.objs.size = s.heap.objs.size + 1 →
      (∀ c o, c ≠ z ∧ c ≠ TO ∧ c ≠ i1 ∧ c ≠ i2 → s.heap.get? c = some o → h'.get? c = some o) → Q (some (.ref s.heap.objs.size)) { s with heap := h' }) : wpAny (model prog w) A (pyNext (.ref z)) Q E s := by
  have ty : s.TypeIs (.ref z) "zip" := ⟨_, hz, rfl⟩
  unfold pyNext
  exact wpAny_bind (wpAny_attempt (wpAny_callSpecial?_slot (name := Str.ofString "__next__") ty F.slot_zip_next (wpAny_call_entry F.slot_zip_next ty F.entry_zip_next (zipK_item D hz hI hO g1 g2 q1 q2 ex ey fun h' a1 a2 a3 a4 a5 a6 a7 => wpAny_pure (hQ h' a1 a2 a3 a4 a5 a6 a7)) (F.args_zip_next_1 _))))
theorem kpn_end {b1 b2 : Bool} {z TI TO i1 i2 l1 l2 : Addr} {k1 k2 : Nat} {xs ys : Array Value} {u v : Value} {Q : Option Value → Shared → Prop} (hh : A.handled = none) (D : ZipApart z TI TO i1 i2 l1 l2) (hz : IsZip s.heap z TI TO .none) (hI : IsPair s.heap TI (.ref i1) (.ref i2)) (hO : IsPair s.heap TO u v)
    (g1 : KIt b1 s.heap i1 l1 k1) (g2 : KIt b2 s.heap i2 l2 k2) (q1 : KSq b1 s.heap l1 xs) (q2 : KSq b2 s.heap l2 ys) (hn : xs[k1]? = none ∨ ys[k2]? = none)
    (hQ : ∀ h', (∀ c o, c ≠ z ∧ c ≠ TO ∧ c ≠ i1 ∧ c ≠ i2 → s.heap.get? c = some o → h'.get? c = some o) → Q none { s with heap := h' }) : wpAny (model prog w) A (pyNext (.ref z)) Q E s := by
  have ty : s.TypeIs (.ref z) "zip" := ⟨_, hz, rfl⟩
  unfold pyNext
  refine wpAny_bind (wpAny_attempt (wpAny_callSpecial?_slot (name := Str.ofString "__next__") ty F.slot_zip_next (wpAny_call_entry F.slot_zip_next ty F.entry_zip_next (zipK_end hh D hz hI hO g1 g2 q1 q2 hn fun h' e hk he => ?_) (F.args_zip_next_1 _))))
  exact he.elim fun o ho => wpAny_bind (wpAny_isInstance (T := "StopIteration") (b := true) ⟨o, ho.1, ho.2⟩ isSubtype_stop (wpAny_pure (hQ _ hk)))
/-! zip of a tuple and a list, made -/
def mxIt (t : String) (l : Addr) : Obj := { cls := .type t, data := .fields #[.ref l, .int 0 0] }
def mx1 (h : Heap) (l : Addr) : Heap := h.push { cls := .type "tuple_iterator", data := .fields #[.ref l, .int 0 0] }
def mx2 (h : Heap) (l m : Addr) : Heap := (mx1 h l).push { cls := .type "list_iterator", data := .fields #[.ref m, .int 0 0] }
def mx3 (h : Heap) (l m : Addr) : Heap := (mx2 h l m).push { cls := .type "tuple", data := .seq #[.ref h.objs.size, .ref (mx1 h l).objs.size] }
def mx4 (h : Heap) (l m : Addr) : Heap := (mx3 h l m).push { cls := .type "tuple", data := .seq #[.none, .none] }
def mx5 (h : Heap) (l m : Addr) : Heap := (mx4 h l m).push { cls := .type "zip", data := .fields #[.none, .bool false, .bool false, .ref (mx2 h l m).objs.size, .ref (mx3 h l m).objs.size] }
theorem meets_zipX (l m : Addr) (xs ys : Array Value) : Meets (Builtin.«zip.__new__» ⟨[.type "zip", .ref l, .ref m], []⟩) (fun _ R s => (s.heap.IsTuple l xs ∧ s.heap.IsList m ys) ∧ R (.ok (.ret (.ref (mx4 s.heap l m).objs.size))) { s with heap := mx5 s.heap l m }) :=
  .of_wp fun prog w A R s h => by
    obtain ⟨hp, ge, dr, tk, os⟩ := s
    obtain ⟨⟨p1, p2⟩, h⟩ := h
    have hsub := sub_zip
    have w1 : Heap.IsTuple (Shared.heap ⟨hp, ge, dr, tk, os⟩) l xs := p1
    have w2 : Heap.IsList (Shared.heap ⟨hp.push { cls := .type "tuple_iterator", data := .fields #[.ref l, .int 0 0] }, ge, dr, tk, os⟩) m ys := Heap.IsList.push p2 _
    unfold mx5 mx4 mx3 mx2 mx1 at h
    wp_walk using wpAny_pyIter_tuple w1, wpAny_pyIter_list w2
    exact ⟨_, rfl, h⟩
/-- what a new zip is -/
def ZipNew (b1 b2 : Bool) (h h' : Heap) (l m : Addr) : Prop := (IsZip h' (h.objs.size + 4) (h.objs.size + 2) (h.objs.size + 3) .none ∧ IsPair h' (h.objs.size + 2) (.ref h.objs.size) (.ref (h.objs.size + 1)) ∧ IsPair h' (h.objs.size + 3) .none .none) ∧ (KIt b1 h' h.objs.size l 0 ∧ KIt b2 h' (h.objs.size + 1) m 0) ∧ ∀ c o, h.get? c = some o → h'.get? c = some o
theorem call_zipX {l m : Addr} {xs ys : Array Value} {Q : Value → Shared → Prop} (p1 : s.heap.IsTuple l xs) (p2 : s.heap.IsList m ys) (k : ∀ h', ZipNew true false s.heap h' l m → Q (.ref (s.heap.objs.size + 4)) { s with heap := h' }) : wpAny (model prog w) A (call (.type "zip") [.ref l, .ref m]) Q E s := by
  refine callType_new F.called_zip (by decide) (F.typeCall_zip_2 _ _) (F.newCall_zip_2 _ _) (fun obj => F.args_object_init_3 obj _ _) F.entry_zip_new (meets_zipX l m xs ys) ⟨⟨p1, p2⟩, ?_⟩
  have n1 : (mx1 s.heap l).objs.size = s.heap.objs.size + 1 := Heap.size_push ..
  have n2 : (mx2 s.heap l m).objs.size = s.heap.objs.size + 2 := (Heap.size_push ..).trans (congrArg (· + 1) n1)
  have n3 : (mx3 s.heap l m).objs.size = s.heap.objs.size + 3 := (Heap.size_push ..).trans (congrArg (· + 1) n2)
  have n4 : (mx4 s.heap l m).objs.size = s.heap.objs.size + 4 := (Heap.size_push ..).trans (congrArg (· + 1) n3)
  have f4 : ∀ c o, (mx4 s.heap l m).get? c = some o → (mx5 s.heap l m).get? c = some o := fun c o e => Heap.get?_push_of_some _ e
  have f3 : ∀ c o, (mx3 s.heap l m).get? c = some o → (mx5 s.heap l m).get? c = some o := fun c o e => f4 c o (Heap.get?_push_of_some _ e)
  have f2 : ∀ c o, (mx2 s.heap l m).get? c = some o → (mx5 s.heap l m).get? c = some o := fun c o e => f3 c o (Heap.get?_push_of_some _ e)
  have f1 : ∀ c o, (mx1 s.heap l).get? c = some o → (mx5 s.heap l m).get? c = some o := fun c o e => f2 c o (Heap.get?_push_of_some _ e)
  have f0 : ∀ c o, s.heap.get? c = some o → (mx5 s.heap l m).get? c = some o := fun c o e => f1 c o (Heap.get?_push_of_some _ e)
  have o5 : (mx5 s.heap l m).get? (mx4 s.heap l m).objs.size = some { cls := .type "zip", data := .fields #[.none, .bool false, .bool false, .ref (mx2 s.heap l m).objs.size, .ref (mx3 s.heap l m).objs.size] } := Heap.get?_push_size _ rfl
  have o4 : (mx5 s.heap l m).get? (mx3 s.heap l m).objs.size = some { cls := .type "tuple", data := .seq #[.none, .none] } := f4 _ _ (Heap.get?_push_size _ rfl)
  have o3 : (mx5 s.heap l m).get? (mx2 s.heap l m).objs.size = some { cls := .type "tuple", data := .seq #[.ref s.heap.objs.size, .ref (mx1 s.heap l).objs.size] } := f3 _ _ (Heap.get?_push_size _ rfl)
  have o2 : (mx5 s.heap l m).get? (mx1 s.heap l).objs.size = some { cls := .type "list_iterator", data := .fields #[.ref m, .int 0 0] } := f2 _ _ (Heap.get?_push_size _ rfl)
  have o1 : (mx5 s.heap l m).get? s.heap.objs.size = some { cls := .type "tuple_iterator", data := .fields #[.ref l, .int 0 0] } := f1 _ _ (Heap.get?_push_size _ rfl)
  rw [n4, n3, n2] at o5
  rw [n3] at o4
  rw [n2, n1] at o3
  rw [n1] at o2
  show _ ∧ _
  rw [n4]
  exact ⟨⟨_, o5, rfl⟩, k _ ⟨⟨o5, o3, o4⟩, ⟨.inl ⟨rfl, _, o1, rfl, rfl⟩, .inr ⟨rfl, _, o2, rfl, rfl⟩⟩, f0⟩⟩
theorem call_zipK {b1 b2 : Bool} {l m : Addr} {xs ys : Array Value} {Q : Value → Shared → Prop} (hb : b1 = false → b2 = false) (p1 : KSq b1 s.heap l xs) (p2 : KSq b2 s.heap m ys) (k : ∀ h', ZipNew b1 b2 s.heap h' l m → Q (.ref (s.heap.objs.size + 4)) { s with heap := h' }) : wpAny (model prog w) A (call (.type "zip") [.ref l, .ref m]) Q E s := by
  rcases p1 with ⟨rfl, p1⟩ | ⟨rfl, p1⟩ <;> rcases p2 with ⟨rfl, p2⟩ | ⟨rfl, p2⟩
  · exact RZ.call_zipT p1 p2 fun h' a1 a2 a3 a4 a5 _ a7 => k h' ⟨⟨a1, a2, a3⟩, ⟨.inl ⟨rfl, a4⟩, .inl ⟨rfl, a5⟩⟩, a7⟩
  · exact call_zipX p1 p2 k
  · exact absurd (hb rfl) (by decide)
  · exact call_zip_2 p1 p2 fun h' a1 a2 a3 a4 a5 _ a7 => k h' ⟨⟨a1, a2, a3⟩, ⟨.inr ⟨rfl, a4⟩, .inr ⟨rfl, a5⟩⟩, a7⟩
end
/-! the walk -/
theorem ksq_of {X : Cx} {pins : List (Addr × Obj)} {σ : L2.St} {H : Hp} {s : Shared} {b : Bool} {a : Addr} {xs : List V} (I : Inv X pins σ H s) (h : SqB X.K H b a xs) : ∃ its, Vals xs its ∧ KSq b s.heap a its.toArray := by
  cases b with
  | true => obtain ⟨its, rv, p, _⟩ := I.tuple (show SqT X.K H a xs from h); exact ⟨its, rv, .inl ⟨rfl, p⟩⟩
  | false => obtain ⟨its, rv, p, _⟩ := I.list (show SqL X.K H a xs from h); exact ⟨its, rv, .inr ⟨rfl, p.isList⟩⟩
theorem KSq.lt {b : Bool} {h : Heap} {l : Addr} {xs : Array Value} (x : KSq b h l xs) : l < h.objs.size := by
  rcases x with ⟨_, _, e, _⟩ | ⟨_, _, e, _⟩ <;> exact Heap.lt_size e
theorem sqb_inj {X : Cx} {pins : List (Addr × Obj)} {σ : L2.St} {H : Hp} {s : Shared} {b : Bool} {a : Addr} {xs ys : List V} (I : Inv X pins σ H s) (h : SqB X.K H b a xs) (h2 : SqB X.K H b a ys) : xs = ys := by
  cases b with
  | true => exact I.tuple_inj (show SqT X.K H a xs from h) h2
  | false => exact I.list_inj (show SqL X.K H a xs from h) h2
/-- the two rows as they stand at each turn, the items in new pairs -/
def ItZ (K : PySem.W.Frag) (b1 b2 : Bool) (a c : Addr) : It :=
  ⟨fun i H => ∃ xs ys x y, (SqB K H b1 a xs ∧ SqB K H b2 c ys) ∧ xs[i]? = some x ∧ ys[i]? = some y,
    fun i H v H' => (∃ T x y, v = .ref T ∧ H T = none ∧ H' = upd H T (.tup [x, y]) ∧ (∀ xs, SqB K H b1 a xs → xs[i]? = some x) ∧ ∀ ys, SqB K H b2 c ys → ys[i]? = some y),
    fun i H => ∃ xs ys, (SqB K H b1 a xs ∧ SqB K H b2 c ys) ∧ (xs.length ≤ i ∨ ys.length ≤ i)⟩
theorem walk_Z {K : PySem.W.Frag} {b1 b2 : Bool} {a c : Addr} {xs ys : List V} {n : Nat} (hn : n = min xs.length ys.length) : Walk (ItZ K b1 b2 a c) n (fun H => SqB K H b1 a xs ∧ SqB K H b2 c ys) (YPair (fun i => xs[i]?) (fun i => ys[i]?)) := by
  refine ⟨fun i _ hi q => ⟨xs, ys, xs[i]'(by omega), ys[i]'(by omega), q, by simp, by simp⟩, fun _ q => ⟨xs, ys, q, by omega⟩, fun i H v H' _ q y => ?_⟩
  obtain ⟨T, x, z, g1, g2, g3, g4, g5⟩ := y
  exact ⟨T, x, z, g1, g2, g3, g4 xs q.1, g5 ys q.2⟩
def ZSt (b1 b2 : Bool) (a c z TI TO i1 i2 : Addr) (i : Nat) (h : Heap) : Prop := (IsZip h z TI TO .none ∧ IsPair h TI (.ref i1) (.ref i2)) ∧ (∃ x y, IsPair h TO x y) ∧ KIt b1 h i1 a i ∧ KIt b2 h i2 c i
theorem turn_Z {P : Program} {w : World} {K : PySem.W.Frag} {elts : List Expr} {kk : Nat} {tpos : Pos} {b1 b2 : Bool} {a c z TI TO i1 i2 : Addr} (D : ZipApart z TI TO i1 i2 a c) :
    Turn P w K (.Tuple elts kk tpos) (ItZ K b1 b2 a c) [z, TI, TO, i1, i2] z (ZSt b1 b2 a c z TI TO i1 i2) where
  mem := by simp
  obj := fun i h st d hd => by
    obtain ⟨⟨hz, hI⟩, ⟨x, y, hO⟩, g1, g2⟩ := st
    have kObj : ∀ {b : Bool} {it l : Addr} {k : Nat}, KIt b h it l k → ∃ o, h.get? it = some o ∧ ∀ v, o.data ≠ .cell v := fun {b it l k} g => by
      rcases g with ⟨_, o, e, _, q⟩ | ⟨_, o, e, _, q⟩ <;> exact ⟨o, e, fun v z => by rw [q] at z; cases z⟩
    have e' : d = z ∨ d = TI ∨ d = TO ∨ d = i1 ∨ d = i2 := by simpa using hd
    rcases e' with q | q | q | q | q <;> rw [q]
    · exact ⟨_, hz, fun v z => nomatch z⟩
    · exact ⟨_, hI, fun v z => nomatch z⟩
    · exact ⟨_, hO, fun v z => nomatch z⟩
    · exact kObj g1
    · exact kObj g2
  keep := fun i h h' st k => by
    obtain ⟨⟨hz, hI⟩, ⟨x, y, hO⟩, g1, g2⟩ := st
    exact ⟨⟨k z (by simp) _ hz, k TI (by simp) _ hI⟩, ⟨x, y, k TO (by simp) _ hO⟩, g1.at_ fun o q => k i1 (by simp) o q, g2.at_ fun o q => k i2 (by simp) o q⟩
  item := by
    intro X hP hw hK hc i pins s σ H E I hf st hg
    subst hP hw hK
    obtain ⟨⟨hz, hI⟩, ⟨x0, y0, hO⟩, g1, g2⟩ := st
    obtain ⟨xs, ys, x, y, ⟨hqx, hqy⟩, hx, hy⟩ := hg
    obtain ⟨its, rv, p⟩ := ksq_of I hqx
    obtain ⟨its2, rv2, p2⟩ := ksq_of I hqy
    obtain ⟨⟨u, hu, ru⟩, ⟨u2, hu2, ru2⟩⟩ := And.intro (rv.get hx) (rv2.get hy)
    have zl : z < s.heap.objs.size := Heap.lt_size hz
    refine kpn_item D hz hI hO g1 g2 p p2 (x := u) (y := u2) (by simpa using hu) (by simpa using hu2) fun h' z' TO' g1' g2' hT hsz hk => ⟨_, rfl, wpAny_letOwnedTupleGo_zip (s := { s with heap := h' }) z' fun h'' z'' sb => ?_⟩
    have T2 : h''.get? s.heap.objs.size = some { cls := .type "tuple", data := .seq #[u, u2] } := (sb.2 _ (Nat.ne_of_gt zl)).trans hT
    have off : ∀ d, d ∉ [z, TI, TO, i1, i2] → d ≠ z ∧ d ≠ TO ∧ d ≠ i1 ∧ d ≠ i2 := fun d hd => ⟨fun q => hd (by simp [q]), fun q => hd (by simp [q]), fun q => hd (by simp [q]), fun q => hd (by simp [q])⟩
    have I1 : Inv X pins σ (upd H s.heap.objs.size (.tup [x, y])) { s with heap := h'' } :=
      I.turnedNew (t' := s.toks) (ch := [z, TI, TO, i1, i2]) (fun d o hb q => (sb.2 d (off d hb).1).trans (hk d o (off d hb) q)) hf (Nat.le_refl _) ⟨by show 2 ≤ sizeLine; decide, [u, u2], .cons ru (.cons ru2 .nil), ⟨_, T2, rfl, _, rfl⟩⟩
    have keepI : h''.get? TI = some { cls := .type "tuple", data := .seq #[.ref i1, .ref i2] } := (sb.2 _ D.TIz).trans (hk _ _ ⟨D.TIz, D.TITO, D.TIi1, D.TIi2⟩ hI)
    refine ⟨.ref s.heap.objs.size, _, I1, rfl, ⟨_, x, y, rfl, I.hok.fresh (Nat.le_refl _), rfl, fun l hl => by rw [sqb_inj I hl hqx]; exact hx, fun l hl => by rw [sqb_inj I hl hqy]; exact hy⟩, ⟨⟨z'', keepI⟩, ⟨u, u2, (sb.2 _ D.TOz).trans TO'⟩, g1'.at_ fun o q => (sb.2 _ D.i1z).trans q, g2'.at_ fun o q => (sb.2 _ D.i2z).trans q⟩, fun d hdm => ?_⟩
    have hlt : d < s.heap.objs.size := by
      have e' : d = z ∨ d = TI ∨ d = TO ∨ d = i1 ∨ d = i2 := by simpa using hdm
      rcases e' with q | q | q | q | q <;> rw [q]
      · exact zl
      · exact Heap.lt_size hI
      · exact Heap.lt_size hO
      · exact g1.lt
      · exact g2.lt
    rw [upd_ne (Nat.ne_of_lt hlt)]
    exact (hf d hdm).1
  done := by
    intro X hP hw hK hc i pins s σ H E I hf st hg
    subst hP hw hK
    obtain ⟨⟨hz, hI⟩, ⟨x0, y0, hO⟩, g1, g2⟩ := st
    obtain ⟨xs, ys, ⟨hqx, hqy⟩, hend⟩ := hg
    obtain ⟨its, rv, p⟩ := ksq_of I hqx
    obtain ⟨its2, rv2, p2⟩ := ksq_of I hqy
    have n1 := rv.length
    have n2 := rv2.length
    have he : its.toArray[i]? = none ∨ its2.toArray[i]? = none := hend.imp (fun q => by simp; omega) (fun q => by simp; omega)
    have off : ∀ d, d ∉ [z, TI, TO, i1, i2] → d ≠ z ∧ d ≠ TO ∧ d ≠ i1 ∧ d ≠ i2 := fun d hd => ⟨fun q => hd (by simp [q]), fun q => hd (by simp [q]), fun q => hd (by simp [q]), fun q => hd (by simp [q])⟩
    exact kpn_end (I.ok.hd hc) D hz hI hO g1 g2 p p2 he fun h' hk => ⟨rfl, I.turnedL (t' := s.toks) (ch := [z, TI, TO, i1, i2]) (fun d o hb q => hk d o (off d hb) q) hf⟩
  self := fun A i s Q E st h => wpAny_pyIter_zip st.1.1 h
def iZipB (K : PySem.W.Frag) (ta : TA) : TI := fun σ H R => ta σ H fun vs H1 => ∃ b1 b2 a c, vs = [.ref a, .ref c] ∧ (b1 = false → b2 = false) ∧ (∃ xs ys, SqB K H1 b1 a xs ∧ SqB K H1 b2 c ys) ∧ R (ItZ K b1 b2 a c) H1
theorem pi_zipB {X : Cx} {e e2 : Expr} {ta : TA} {p pos tpos : Pos} {elts : List Expr} {kk : Nat} (hg : Gl X "zip") (hm : X.mg "zip" = none) (ha : PA X [e, e2] ta)
    (hs : starEach [e, e2] X.env = (false, eval e X.env) :: starEach [e2] X.env := by rfl) (hpl : (backTo pos (starEach [e2] X.env)).any (·.1) = false := by rfl) : PI X (.Tuple elts kk tpos) (.Call (.Name "zip" p) [e, e2] [] pos) (iZipB X.K ta) := by
  refine ⟨fun pins s σ H R I h => Call_ (ld_blt I hg hm PyProof.Rows.boot_zip (PyProof.Rows.callWith_type1 (thn (ha.run pos pins s σ H _ I h) fun us s1 ⟨vs, H1, I1, r1, q1⟩ => ?_) hs hpl))⟩
  obtain ⟨b1, b2, a, c, rfl, hb, ⟨xs, ys, hqx, hqy⟩, q⟩ := q1
  obtain ⟨u1, u2, rfl, r, r'⟩ : ∃ u1 u2, us = [u1, u2] ∧ RelV (.ref a) u1 ∧ RelV (.ref c) u2 := by
    cases r1 with
    | cons r rr =>
      cases rr with
      | cons r' rr => cases rr; exact ⟨_, _, rfl, r, r'⟩
  cases r
  cases r'
  obtain ⟨its, rv, p1⟩ := ksq_of I1 hqx
  obtain ⟨its2, rv2, p2⟩ := ksq_of I1 hqy
  refine call_zipK hb p1 p2 fun h' ⟨⟨hz, hI, hO⟩, ⟨g1, g2⟩, hk⟩ => wpAny_pyIter_zip hz ?_
  refine ⟨s1.heap.objs.size + 4, [s1.heap.objs.size + 4, s1.heap.objs.size + 2, s1.heap.objs.size + 3, s1.heap.objs.size, s1.heap.objs.size + 1], _, _, H1, rfl, I1.kept (t' := s1.toks) hk, turn_Z (PySem.W.ktu_apart s1.heap.objs.size a c p1.lt p2.lt), ⟨⟨hz, hI⟩, ⟨_, _, hO⟩, g1, g2⟩, fun d hd => ?_, q⟩
  have hle : s1.heap.objs.size ≤ d := by
    have e' : d = s1.heap.objs.size + 4 ∨ d = s1.heap.objs.size + 2 ∨ d = s1.heap.objs.size + 3 ∨ d = s1.heap.objs.size ∨ d = s1.heap.objs.size + 1 := by simpa using hd
    rcases e' with q | q | q | q | q <;> rw [q] <;> first | exact Nat.le_add_right _ _ | exact Nat.le_refl _
  exact I1.fpOk hle (I1.hok.fresh hle)
end TC
set_option maxHeartbeats 4000000
/-! sorted(set(row)), min, any; comprehensions over zip. -/
namespace TC
open PySem PySem.Spec PyProof.Rows L2
section
variable {P : Program} {w : World} {A : Around} {E : Value → Shared → Prop} {s : Shared}
/-- set(row), the row a list of ints -/
theorem call_setL {l : Addr} {items : Array Value} (ns : List Int) {Q : Value → Shared → Prop} (hh : A.handled = none) (hl : s.heap.IsList l items) (hit : IntsAre items.toList ns) (hb : ns.length + 1 < scanBound)
    (k : ∀ (h' : Heap) (tk c : Nat), (SetR w h' s.heap.objs.size (fun j => decide (j ∈ ns)) c ∧ c ≤ ns.length) ∧ (∀ b o, s.heap.get? b = some o → h'.get? b = some o) → Q (.ref s.heap.objs.size) { s with heap := h', toks := tk }) : wpAny (model P w) A (call (.type "set") [.ref l]) Q E s := by
  have nIt : items.size = ns.length := by have q := IntsAre.length hit; rwa [Array.length_toList] at q
  obtain ⟨c, tl, hmro⟩ := F.called_set.mro
  have made := F.called_set.made; have subs := F.called_set.sub
  refine wpAny_call (codeAny_of_tree (show wpAny _ _ (callAny (.type "set") _) _ _ _ from wpAny_pure ⟨Code.quiet_builtin _ (by decide +kernel), codeAny_builtin F.entry_type_call ?_⟩))
  rw [Around.under_plain (weight_type_call_type "set" [.ref l] []) rfl]
  have t1 := F.called_set.notType; have t2 := F.called_set.canCreate; have t3 := F.typeCall_set_1 (.ref l)
  repeat (any_goals (first | assumption | wp_step))
  refine codeAny_mono (code_set_led1 (.ref l) (E := E) (Q₁ := fun obj s₁ => obj = .ref s.heap.objs.size ∧ s₁ = { s with heap := s.heap.push { cls := .type "set", dict := none, data := .set #[] 0 (.fresh 0 0 (!w.params.followText "set-order")) } }) ⟨rfl, rfl⟩) fun r s₁ hr => ?_
  cases r with
  | error e => exact hr
  | ok fl =>
    cases fl with
    | next => exact hr.elim
    | brk => exact hr.elim
    | cont => exact hr.elim
    | ret obj =>
      obtain ⟨rfl, rfl⟩ := hr
      have at0 : (s.heap.push { cls := .type "set", dict := none, data := .set #[] 0 (.fresh 0 0 (!w.params.followText "set-order")) }).get? s.heap.objs.size = some { cls := .type "set", dict := none, data := .set #[] 0 (.fresh 0 0 (!w.params.followText "set-order")) } := Heap.get?_push_size _ rfl
      have ty : Shared.TypeIs { s with heap := s.heap.push { cls := .type "set", dict := none, data := .set #[] 0 (.fresh 0 0 (!w.params.followText "set-order")) } } (.ref s.heap.objs.size) "set" := ⟨_, at0, rfl⟩
      have i1 := F.called_set.init.lookup; have i2 := F.called_set.init.bind (.ref s.heap.objs.size)
      repeat (any_goals (first | assumption | wp_step))
      refine codeAny_mono (codeAny_call_builtin (R := wants (fun r s₂ => r = .none ∧ ∃ h' tk c, s₂ = { s with heap := h', toks := tk } ∧ ((SetR w h' s.heap.objs.size (fun j => decide (j ∈ ns)) c ∧ c ≤ ns.length) ∧ ∀ b o, s.heap.get? b = some o → h'.get? b = some o)) E) F.called_set.init.plain F.entry_set_init (check_set_init_1 ty ?_)) fun r₂ s₂ hr₂ => ?_
      · obtain ⟨ol, oe, oc, nl, od⟩ := hl
        obtain ⟨ocls, odict, odata, oslots⟩ := ol
        simp only at oc od
        subst oc; subst od
        have oe2 : (s.heap.push { cls := .type "set", dict := none, data := .set #[] 0 (.fresh 0 0 (!w.params.followText "set-order")) }).get? l = some { cls := .type "list", dict := odict, data := .seq items nl, slots := oslots } := Heap.get?_push_of_some _ oe
        have sub1 := F.sub_list_set; have sub2 := F.sub_list_frozenset
        have nd : (Value.type "list" == Value.type "dict") = false := by decide
        have hl1 : (s.heap.push { cls := .type "set", dict := none, data := .set #[] 0 (.fresh 0 0 (!w.params.followText "set-order")) }).IsList l items := ⟨_, oe2, rfl, nl, rfl⟩
        unfold Builtin.«set.__init__» noKeywords Builtin.Frozenset.updateFrom
        generalize hPI : pyIter = PI
        wp_walk
        subst hPI
        refine wpAny_pyIter_list hl1 ?_
        refine wpAny_bind (m := runValue _) (wpAny_runValue ?_)
        have ls : l < s.heap.objs.size := Heap.lt_size oe
        have hh3 : A.in1.in1.in1.handled = none := by simp [hh]
        have nI : l ≠ (s.heap.push { cls := .type "set", dict := none, data := .set #[] 0 (.fresh 0 0 (!w.params.followText "set-order")) }).objs.size := by rw [Heap.size_push]; exact Nat.ne_of_lt (Nat.lt_succ_of_lt ls)
        have nS : s.heap.objs.size ∉ [(s.heap.push { cls := .type "set", dict := none, data := .set #[] 0 (.fresh 0 0 (!w.params.followText "set-order")) }).objs.size, l] := by
          rw [Heap.size_push]; simp only [List.mem_cons, List.mem_singleton, List.not_mem_nil, or_false, not_or]; exact ⟨Nat.ne_of_lt (Nat.lt_succ_self _), Nat.ne_of_gt ls⟩
        have vals : ∀ (i : Nat) (v : Value), items[i]? = some v → ∃ k t, ns[i]? = some k ∧ v = .int k t := fun i v hv => by
          have hi : i < ns.length := nIt ▸ (Array.getElem?_eq_some_iff.mp hv).1
          obtain ⟨t, e⟩ := PyProof.Rows.IntsAre.int_at hit i v (by rw [Array.getElem?_toList]; exact hv)
          exact ⟨ns[i], t, List.getElem?_eq_getElem hi, by rw [e, List.getD_eq_getElem?_getD, List.getElem?_eq_getElem hi] <;> rfl⟩
        refine set_update_ints ((Walks.list hh3 _ l nI items).toS) s.heap.objs.size nS ns nIt hb vals (items.size - 0) 0 _ (by omega) (Nat.zero_le _) ⟨⟨_, Heap.get?_push_size _ rfl, rfl, rfl⟩, (hl1.push _)⟩ ⟨0, Nat.le_refl 0, setR_new_at (Heap.get?_push_of_some _ at0)⟩ ?_
        intro s' c' hm hc' hS'
        obtain ⟨h', g2, d', tk', os'⟩ := s'
        obtain ⟨eg, ed, eo⟩ : g2 = s.gens ∧ d' = s.drawn ∧ os' = s.os := ⟨hm.gens, hm.drawn, hm.os⟩
        subst eg ed eo
        rw [nIt] at hc'
        refine show wpAny _ _ _ _ _ _ from wpAny_pure (show wpAny _ _ (ret Value.none) _ _ _ from wpAny_pure ⟨rfl, h', tk', c', rfl, ⟨hS', hc'⟩, fun b o e => ?_⟩)
        have b0 : b < s.heap.objs.size := Heap.lt_size e
        have b2 : b ≠ (s.heap.push { cls := .type "set", dict := none, data := .set #[] 0 (.fresh 0 0 (!w.params.followText "set-order")) }).objs.size := by rw [Heap.size_push]; exact Nat.ne_of_lt (Nat.lt_succ_of_lt b0)
        exact hm.heap b o (by simp only [List.mem_cons, List.mem_singleton, List.not_mem_nil, or_false, not_or]; exact ⟨Nat.ne_of_lt b0, b2⟩) (Heap.get?_push_of_some _ (Heap.get?_push_of_some _ e))
      · cases r₂ with
        | error e => exact hr₂
        | ok fl₂ =>
          cases fl₂ with
          | next => exact hr₂.elim
          | brk => exact hr₂.elim
          | cont => exact hr₂.elim
          | ret r =>
            obtain ⟨rfl, h', tk, c', rfl, kk⟩ := hr₂
            repeat (any_goals (first | assumption | wp_step))
            exact k _ _ _ kk
end
/-- sorted(set(row)) -/
def tSortSet (K : PySem.W.Frag) (ta : TE) : TE := fun σ H Q => ta σ H fun x H1 => ∃ (l : Addr) (ns : List Int), x = .ref l ∧ (SqL K H1 l (ns.map V.int) ∧ ns.length < 60) ∧ ∀ (out : List Int) p, (out.Pairwise (· < ·) ∧ ∀ k, k ∈ out ↔ k ∈ ns) → out.length ≤ ns.length → H1 p = none → Q (.ref p) (upd H1 p (.lst (out.map V.int)))
theorem pe_sortSet {X : Cx} {a : Expr} {ta : TE} {p p2 q pos : Pos} (hc : X.calm = true) (hg : Gl X "sorted") (hm : X.mg "sorted" = none) (hg2 : Gl X "set") (hm2 : X.mg "set" = none) (ha : PE X a ta)
    (na : starEach [a] X.env = (false, eval a X.env) :: starEach [] X.env := by rfl) : PE X (.Call (.Name "sorted" p) [.Call (.Name "set" p2) [a] [] q] [] pos) (tSortSet X.K ta) := by
  refine ⟨fun pins s σ H Q I h => Call_ (ld_blt I hg hm boot_sorted (PyProof.Rows.callWith_builtin1 (PyProof.Rows.args_cons (Call_ (ld_blt I hg2 hm2 PyProof.Rows.boot_set (PyProof.Rows.callWith_type1 (PyProof.Rows.args_cons (thn (ha.run pins s σ H _ I h) fun v s1 ⟨x, H1, I1, r1, q1⟩ => PyProof.Rows.args_nil ?_) na) na rfl))) rfl) rfl rfl))⟩
  obtain ⟨l, ns, rfl, ⟨hq, hn⟩, q1⟩ := q1
  cases r1
  obtain ⟨its, r, pl, hz⟩ := I1.list hq
  refine call_setL ns (I1.ok.hd hc) pl.isList (by simpa using r.ints) (by unfold scanBound; omega) fun h' tk c ⟨⟨R, hcl⟩, k⟩ => PyProof.Rows.args_nil ?_
  refine sorted_set R (I1.ok.hd hc) (by omega) fun s' p out c2 ms k2 eg eo hp hpg hints pw mem ml => ?_
  have kall : ∀ b o, s1.heap.get? b = some o → s'.heap.get? b = some o := fun b o e => k2 b o (k b o e)
  have hp1 : s1.heap.objs.size ≤ p := Nat.le_trans (Nat.le_of_lt R.lt) hp
  have fr : H1 p = none := I1.hok.fresh hp1
  have lay : (ms.map V.int).length ≤ sizeLine := by rw [List.length_map, ml, sizeLine_eq]; omega
  have J : Inv X pins σ (upd H1 p (.lst (ms.map V.int))) { s1 with heap := s'.heap, gens := s'.gens, drawn := s'.drawn, toks := s'.toks } := I1.call (ch := []) (Un.laid kall hp1 fr) (I1.hok.laid kall hp1 ⟨lay, out.toList, c2, vals_of_ints hints, hpg⟩) (by rw [eg]; exact I1.bare) (fun _ z => nomatch z)
  have e : s' = { s1 with heap := s'.heap, gens := s'.gens, drawn := s'.drawn, toks := s'.toks } := by cases s'; cases s1; cases eo; rfl
  rw [e]
  exact ⟨.ref p, _, J, rfl, q1 ms p ⟨pw, fun j => (mem j).trans decide_eq_true_iff⟩ (by omega) fr⟩
/-! min, any; comprehensions over zip -/
section
variable {X : Cx} {K : PySem.W.Frag} {σ : L2.St} {H : Hp} {te tl : TE} {ta : TA} {t : L2.TT}
theorem cr_anyK (h : X.K = K) (hc : X.calm = true := by rfl) : CallR X (.builtin "any") (rAny K) := by subst h; exact cr_any hc
theorem cr_minK (h : X.K = K) (hc : X.calm = true := by rfl) : CallR X (.builtin "min") (rMin K) := by subst h; exact cr_min hc
open Evl
theorem ev_any {bs : List Bool} {xs : List V} (h : EvL te σ H xs) (hx : xs = bs.map V.bl) : Ev (tCB (rAny K) (tCons te tNil)) σ H (.bl (bs.any id)) := fun H1 e Q q =>
  h H1 e _ fun p H2 _ e2 h2 => ⟨p, bs, rfl, sq_of (hx ▸ h2), q H2 e2⟩
theorem ep_min {b : Addr} {ns : List Int} (h : Ev te σ H (.ref b)) (hx : SqL K H b (ns.map V.int)) (hl : 0 < ns.length) : EvP (tCB (rMin K) (tCons te tNil)) σ H (fun v _ => ∃ m, v = .int m ∧ m ∈ ns ∧ ∀ y ∈ ns, m ≤ y) := fun H1 e Q q =>
  h H1 e _ fun H2 e2 => ⟨b, ns, rfl, ex_l (e.trans e2) hx, hl, fun m m1 m2 => q _ H2 e2 ⟨m, rfl, m1, m2⟩⟩
/-- [.. for x, y in zip(l, m) if ..] -/
theorem el_lcZ {b1 b2 : Bool} {xs ys : List V} {i j n : Nat} {vs : List Nat} (f : Nat → Bool) (v : Nat → V) (h : EvAP ta σ H (fun us H1 => ∃ a c, us = [.ref a, .ref c] ∧ SqB K H1 b1 a xs ∧ SqB K H1 b2 c ys)) (hb : b1 = false → b2 = false) (hn : n = min xs.length ys.length) (hz : n ≤ 40000)
    (hw : ∀ x y, wipe (((wipe σ vs).set i (some x)).set j (some y)) vs = wipe σ vs)
    (ht : ∀ (k : Nat) x y H1, Ex H H1 → xs[k]? = some x → ys[k]? = some y → EvT t (((wipe σ vs).set i (some x)).set j (some y)) H1 (f k))
    (he : ∀ (k : Nat) x y H1, Ex H H1 → xs[k]? = some x → ys[k]? = some y → f k = true → Ev te (((wipe σ vs).set i (some x)).set j (some y)) H1 (v k)) :
    EvL (tLc (iZipB K ta) (gTup K 2 (gCons (gName i) (gCons (gName j) gNil))) t te vs) σ H (given n f v) := fun H0 e Q q => h H0 e _ fun us H1 e1 ⟨a, c, eu, p1, p2⟩ => ⟨b1, b2, a, c, eu, hb, ⟨xs, ys, p1, p2⟩, fun Dl hD =>
  lc_it (walk_Z hn) (Cw H1 f v Dl) ⟨hD, Ex.new hD, upd_same⟩ (fun i H' _ p => ⟨p1.ex p.2.1, p2.ex p.2.1⟩) (fun k x H' H'' hi p y => by
    obtain ⟨T, x1, y1, rfl, hT, rfl, ex, ey⟩ := y
    have p' : Cw H1 f v Dl k (upd H' T (.tup [x1, y1])) := ⟨p.1, p.2.1.trans (Ex.new hT), (Ex.new hT) _ _ p.2.2⟩
    exact ⟨T, _, rfl, st_of upd_same, rfl, _, _, rfl, _, _, rfl, rfl, hw x1 y1, cw_turn p' (by omega) (ht k x1 y1 H1 (e.trans e1) ex ey) (fun hf => he k x1 y1 H1 (e.trans e1) ex ey hf)⟩)
    (fun H' p => q Dl H' (fresh_back e1 p.1) (e1.trans p.2.1) p.2.2)⟩
end
end TC
set_option maxHeartbeats 2000000
/-! Thunks: weaker, and called by a name. -/
namespace TC
open PySem PySem.Spec PyProof.Rows L2 Evl
theorem Thunk.imp {P : Program} {w : World} {K : PySem.W.Frag} {mg : Str → Option Value} {base : Heap} {k : Nat} {f : Addr} {H : Hp} {Q Q' : VK} {E E' : XK} (h : Thunk P w K mg base k f H Q E) (hQ : ∀ v H', Q v H' → Q' v H') (hE : ∀ c d H', E c d H' → E' c d H') : Thunk P w K mg base k f H Q' E' := by
  intro A outer s hr hg e0
  obtain ⟨h1, h2⟩ := h A outer s hr hg e0
  refine ⟨h1, codeAny_mono h2 fun r s' q => ?_⟩
  cases r with
  | error e =>
    obtain ⟨a, B, H', cls, d, z1, z2, z3, z4, z5, z6, z7, z8⟩ := q
    exact ⟨a, B, H', cls, d, z1, z2, z3, z4, z5, z6, z7, hE _ _ _ z8⟩
  | ok fl =>
    cases fl with
    | ret u =>
      obtain ⟨v, H', z1, z2, z3, z4, z5, z6⟩ := q
      exact ⟨v, H', z1, z2, z3, z4, z5, hQ _ _ z6⟩
    | next => exact q
    | brk => exact q
    | cont => exact q
section
variable {X : Cx}
def tThunkS (P : Program) (w : World) (K : PySem.W.Frag) (mg : Str → Option Value) (base : Heap) (k i : Nat) (W : WX) : TE := fun σ H Q => ∃ f : Addr, σ[i]? = some (some (.ref f)) ∧ Thunk P w K mg base k f H Q (fun cls d H' => W cls d σ H')
theorem pe_thunkS {W : WX} {i k : Nat} {x : Str} {p pos : Pos} (hr : Room k X.A) (hg : X.A.guards = some []) (tk : Takes X W) (hN : X.N[i]? = some x) (hv : Vis X.env.scope x) (hdb : (x == ("__debug__" : Str)) = false := by decide) (hcd : (x == ("__classdict__" : Str)) = false := by decide) :
    PE X (.Call (.Name x p) [] [] pos) (tThunkS X.prog X.w X.K X.mg X.base k i W) := by
  refine ⟨fun pins s σ H Q I h => ?_⟩
  obtain ⟨f, hs, th⟩ := h
  refine wpAny_Call_Name_kw (thn ((pe_var (pos := p) hN hv hdb hcd).run pins s σ H (fun v H1 => v = .ref f ∧ H1 = H) I ⟨.ref f, hs, rfl, rfl⟩) fun u s1 ⟨v, H1, I1, r1, q1⟩ => ?_)
  obtain ⟨rfl, rfl⟩ := q1
  obtain rfl : u = Value.ref f := r1
  obtain ⟨fa, rc⟩ := th X.A X.stack s1 hr hg I1.env0
  refine PySem.W.callWith_F0 fa (wpAny_call (codeAny_mono rc fun r s' hq => ?_))
  cases r with
  | error e => exact (passAt tk σ) pins _ s1 e s' I1 hq
  | ok fl =>
    cases fl with
    | ret u => exact I1.after hq
    | next => exact False.elim hq
    | brk => exact False.elim hq
    | cont => exact False.elim hq
end
end TC
set_option maxHeartbeats 2000000
/-! Values with their words, the words standing though tables change; lists whose items are told by words. -/
namespace TC
open PySem PySem.Spec PyProof.Rows L2 LamX Evl
section
variable {TT : List (Addr × Str)} {K : PySem.W.Frag} {σ : L2.St} {H : Hp} {te : TE} {ta : TA} {P : V → Hp → Prop} {D : Ends} {tz : TS}
/-- a value with its word, the word standing though tables change -/
def EvM (TT : List (Addr × Str)) (te : TE) (σ : L2.St) (H : Hp) (P : V → Hp → Prop) : Prop := EvN TT te σ H P ∧ MonN P
def EvAM (TT : List (Addr × Str)) (ta : TA) (σ : L2.St) (H : Hp) (Ps : List (V → Hp → Prop)) : Prop := EvAN TT ta σ H (AllP Ps) ∧ ∀ P ∈ Ps, MonN P
def TupN (Ps : List (V → Hp → Prop)) : V → Hp → Prop := fun v H => ∃ a vs, v = .ref a ∧ H a = some (.tup vs) ∧ AllP Ps vs H
def LstN (Ps : List (V → Hp → Prop)) : V → Hp → Prop := fun v H => ∃ a vs, v = .ref a ∧ H a = some (.lst vs) ∧ AllP Ps vs H
theorem monN_tup {Ps : List (V → Hp → Prop)} (m : ∀ P ∈ Ps, MonN P) : MonN (TupN Ps) := fun v H H' e ⟨a, vs, h1, h2, h3⟩ => ⟨a, vs, h1, e _ _ h2 (fun ps z => nomatch z), h3.1, fun i v P h4 h5 => m P (List.mem_of_getElem? h5) v _ _ e (h3.2 i v P h4 h5)⟩
theorem monN_lst {Ps : List (V → Hp → Prop)} (m : ∀ P ∈ Ps, MonN P) : MonN (LstN Ps) := fun v H H' e ⟨a, vs, h1, h2, h3⟩ => ⟨a, vs, h1, e _ _ h2 (fun ps z => nomatch z), h3.1, fun i v P h4 h5 => m P (List.mem_of_getElem? h5) v _ _ e (h3.2 i v P h4 h5)⟩
theorem eam_nil : EvAM TT tNil σ H [] := ⟨ean_nil, fun P h => by simp at h⟩
theorem eam_cons {Ps : List (V → Hp → Prop)} (h : EvM TT te σ H P) (hr : EvAM TT ta σ H Ps) : EvAM TT (tCons te ta) σ H (P :: Ps) := ⟨ean_cons h.2 h.1 hr.1, fun R hR => by
  rcases List.mem_cons.mp hR with rfl | z
  · exact h.2
  · exact hr.2 R z⟩
theorem em_tup {Ps : List (V → Hp → Prop)} (h : EvAM TT ta σ H Ps) (hl : Ps.length ≤ 100000) : EvM TT (tTup ta) σ H (TupN Ps) := ⟨en_tup h.2 h.1 hl, monN_tup h.2⟩
theorem em_lst {Ps : List (V → Hp → Prop)} (h : EvAM TT ta σ H Ps) (hl : Ps.length ≤ 100000) : EvM TT (tLst ta) σ H (LstN Ps) := ⟨en_lst h.2 h.1 hl, monN_lst h.2⟩
theorem em_lam {q : Str} {params : Arguments} {body : Expr} {scope : Scope} {cl : List (Str × Addr)} : EvM TT (tLamb TT q params body scope cl) σ H (LamW q params body scope cl) := ⟨en_lam, monN_lam⟩
theorem em_p (h : EvP te σ (noTbl H) P) (m : MonN P) : EvM TT te σ H P := ⟨EvP.n h, m⟩
theorem q_asgN {i : Nat} (h : EvM TT te σ H P) (t : Tabs TT H) (k : ∀ v H1, ExtN H H1 → P v H1 → tz D (σ.set i (some v)) H1) : tSeq (tAsg te (gName i)) tz D σ H := h.1 H (ExtN.refl H) t _ fun v H1 e _ p => k v H1 e p
theorem epDs {s : Str} (h : Ev te σ H (.str s)) : EvP te σ H (fun v H1 => Dp K H1 v (.str s)) := fun H1 e Q q => h H1 e _ fun H2 e2 => q _ H2 e2 (.str _)
end
/-- all but lists -/
def ExtL (H H' : Hp) : Prop := ∀ a o, H a = some o → (∀ xs, o ≠ .lst xs) → H' a = some o
theorem ExtL.of {H H' : Hp} (e : Ex H H') : ExtL H H' := fun a o h _ => e a o h
theorem ExtL.trans {H H1 H2 : Hp} (a : ExtL H H1) (b : ExtL H1 H2) : ExtL H H2 := fun c o h n => b c o (a c o h n) n
theorem ExtL.upd {H : Hp} {l : Addr} {xs : List V} {o : HO} (h : H l = some (.lst xs)) : ExtL H (L2.upd H l o) := fun a u hu n => by
  rw [upd_ne (fun z => by rw [z, h] at hu; cases hu; exact n _ rfl)]
  exact hu
def MonL (P : V → Hp → Prop) : Prop := ∀ v H H', ExtL H H' → P v H → P v H'
theorem sqT_L {K : PySem.W.Frag} {H H' : Hp} {a : Addr} {xs : List V} (e : ExtL H H') (h : SqT K H a xs) : SqT K H' a xs := by
  rcases h with (h | ⟨o, h⟩) | h
  · exact .inl (.inl (e a _ h (fun _ z => nomatch z)))
  · exact .inl (.inr ⟨o, e a _ h (fun _ z => nomatch z)⟩)
  · exact .inr h
section
variable {K : PySem.W.Frag} {σ : L2.St} {H : Hp} {tl te : TE}
/-- [.. for x in l], each item told by a word of its place -/
theorem ep_lcR {R : Nat → V → Hp → Prop} {b : Bool} {a : Addr} {xs : List V} {j : Nat} {vs : List Nat} (m : ∀ i, MonL (R i)) (h : Ev tl σ H (.ref a)) (hx : SqB K H b a xs) (hz : xs.length ≤ 40000) (hw : ∀ x, wipe ((wipe σ vs).set j (some x)) vs = wipe σ vs)
    (he : ∀ (i : Nat) (x : V) H1, Ex H H1 → xs[i]? = some x → EvP te ((wipe σ vs).set j (some x)) H1 (R i)) : EvP (tLc (iAny K tl) (gName j) tYes te vs) σ H (fun v H1 => ∃ p ys, v = .ref p ∧ H1 p = some (.lst ys) ∧ ys.length = xs.length ∧ ∀ i y, ys[i]? = some y → R i y H1) := fun H0 e Q q =>
  h H0 e _ fun H1 e1 => ⟨b, a, rfl, ⟨xs, hx.ex (e.trans e1)⟩, fun Dl hD =>
  lc_it walk_B (fun i H' => Ex H1 H' ∧ ∃ ys, H' Dl = some (.lst ys) ∧ ys.length = i ∧ ∀ k y, ys[k]? = some y → R k y H') ⟨Ex.new hD, [], upd_same, rfl, fun k y hk => by simp at hk⟩ (fun i H' _ p => hx.ex ((e.trans e1).trans p.1)) (fun i x H' H'' hi p y => by
    obtain ⟨rfl, y2⟩ := y
    obtain ⟨p1, ys, p2, p3, p4⟩ := p
    refine ⟨hw x, (show True → _ from fun _ => he i x H'' ((e.trans e1).trans p1) y2 H'' (Ex.refl _) _ fun v H4 e4 hv => ?_) True.intro⟩
    refine ⟨ys, e4 _ _ p2, sz_lt (by omega), Ex.mut (p1.trans e4) hD, ys ++ [v], upd_same, by simp [p3], fun k y hk => ?_⟩
    have up : ExtL H4 (L2.upd H4 Dl (.lst (ys ++ [v]))) := ExtL.upd (e4 _ _ p2)
    by_cases hlt : k < ys.length
    · rw [List.getElem?_append_left hlt] at hk
      exact m k y _ _ ((ExtL.of e4).trans up) (p4 k y hk)
    · have hk' := (List.getElem?_eq_some_iff.mp hk).1
      have e5 : k = i := by simp at hk'; omega
      rw [e5, ← p3] at hk
      simp at hk
      subst hk
      rw [e5]
      exact m i v _ _ up hv)
    (fun H' p => by
      obtain ⟨p1, ys, p2, p3, p4⟩ := p
      exact q _ H' (e1.trans p1) ⟨Dl, ys, rfl, p2, p3, p4⟩)⟩
end
end TC
set_option maxHeartbeats 2000000
/-! Lambdas with a parameter, or with a default value; such as are called through a cell; a call made over the frame's own cells. -/
namespace TC
open PySem PySem.Spec PyProof.Rows L2 LamX Evl
/-- at f stands a lambda, its default values at dV -/
def LamG (f : Addr) (q : Str) (params : Arguments) (body : Expr) (scope : Scope) (cl : List (Str × Addr)) (c : Addr) (dV : Value) : HO := .ext fun h => ∃ doc pm ctv : Value, h.get? f = some (PySem.W.kdv_obj "<lambda>" q params (.expr body) scope cl dV doc pm c ctv)
/-- what a heap says of it -/
def LamAt (f : Addr) (q : Str) (params : Arguments) (body : Expr) (scope : Scope) (cl : List (Str × Addr)) (c : Addr) (dV : Value) (H : Hp) : Prop := ∀ (P : Program) (w : World) (h : Heap), HOk P w H h → ∃ doc pm ctv : Value, h.get? f = some (PySem.W.kdv_obj "<lambda>" q params (.expr body) scope cl dV doc pm c ctv)
theorem lamAt_O {f : Addr} {q : Str} {params : Arguments} {body : Expr} {scope : Scope} {cl : List (Str × Addr)} {c : Addr} {H : Hp} (h : H f = some (LamO f q params body scope cl c)) : LamAt f q params body scope cl c .none H := fun P w hp ok => by
  obtain ⟨⟨pm, ctv, e⟩, _⟩ := ok f _ h
  exact ⟨.none, pm, ctv, e⟩
theorem lamAt_G {f : Addr} {q : Str} {params : Arguments} {body : Expr} {scope : Scope} {cl : List (Str × Addr)} {c : Addr} {dV : Value} {H : Hp} (h : H f = some (LamG f q params body scope cl c dV)) : LamAt f q params body scope cl c dV H := fun P w hp ok => by
  obtain ⟨z, _⟩ := ok f _ h
  exact z
section
variable {X : Cx} {pins : List (Addr × Obj)} {σ : L2.St} {H : Hp} {s : Shared}
/-- the lambda is made and tracked -/
theorem lam_tail {T : List (Addr × Str)} {c P : Addr} {params : Arguments} {body : Expr} {scope : Scope} {pos : Pos} {dV : Value} {E : Value → Shared → Prop} {Q : Value → Shared → Prop} (I : Inv X pins σ H s) (TB : TabB X.base X.mg c P) (hcode : X.env.code = .ref c)
    (hm : (P, X.env.qual ++ "<lambda>") ∈ T) (hu : ∀ p ∈ T, p.1 = P → p.2 = X.env.qual ++ "<lambda>") (hT : Tabs T H) (hfree : ∀ y ∈ scope.names, y.2 = .free → ∃ c, X.env.cells.lookup y.1 = some c)
    (h : ∀ (f c' : Addr) (H1 : Hp) (s' : Shared), Inv X pins σ (upd H1 f (LamG f (X.env.qual ++ "<lambda>") params body scope (cloFrom X.env.cells scope.names []) c' dV)) s' → ExtN H H1 → H1 f = none → Tabs T H1 → H1 c' = some (CodeO c' (X.env.qual ++ "<lambda>")) → Q (.ref f) s') :
    wpAny (model X.prog X.w) X.A (makeTail "<lambda>" (X.env.qual ++ "<lambda>") params (.expr body) scope X.env dV .none none pos pos.line) Q E s := by
  obtain ⟨ps, hP, ht, ha⟩ := hT _ hm
  have bP : s.heap.BuiltinsAt X.mg P := TB.bm.keeps I.bk
  have oP : s.heap.get? P = some { cls := .none, data := .fields ps } := I.hok P _ hP
  have lay : ∀ (H1 : Hp) (h' : Heap) (c' : Addr) (doc pm ctv : Value) (tk : Nat), Inv X pins σ H1 { s with heap := h', toks := tk } → ExtN H H1 → Tabs T H1 → H1 c' = some (CodeO c' (X.env.qual ++ "<lambda>")) →
      Q (.ref h'.objs.size) { s with heap := h'.push (PySem.W.kdv_obj "<lambda>" (X.env.qual ++ "<lambda>") params (.expr body) scope (cloFrom X.env.cells scope.names []) dV doc pm c' ctv), toks := tk } := by
    intro H1 h' c' doc pm ctv tk J x1 x2 x3
    have at_ : (h'.push (PySem.W.kdv_obj "<lambda>" (X.env.qual ++ "<lambda>") params (.expr body) scope (cloFrom X.env.cells scope.names []) dV doc pm c' ctv)).get? h'.objs.size = some (PySem.W.kdv_obj "<lambda>" (X.env.qual ++ "<lambda>") params (.expr body) scope (cloFrom X.env.cells scope.names []) dV doc pm c' ctv) := Heap.get?_push_size _ rfl
    have new : ObjOk X.prog X.w (upd H1 h'.objs.size (LamG h'.objs.size (X.env.qual ++ "<lambda>") params body scope (cloFrom X.env.cells scope.names []) c' dV)) (h'.push (PySem.W.kdv_obj "<lambda>" (X.env.qual ++ "<lambda>") params (.expr body) scope (cloFrom X.env.cells scope.names []) dV doc pm c' ctv)) h'.objs.size (LamG h'.objs.size (X.env.qual ++ "<lambda>") params body scope (cloFrom X.env.cells scope.names []) c' dV) :=
      ⟨⟨doc, pm, ctv, at_⟩, ⟨_, at_⟩, fun h1 h2 z k => by obtain ⟨d', pm', ctv', e⟩ := z; exact ⟨d', pm', ctv', k _ e⟩⟩
    exact h h'.objs.size c' H1 _ (J.laid (t' := tk) (fun b u e => Heap.get?_push_of_some _ e) (Nat.le_refl _) new) x1 (J.hok.fresh (Nat.le_refl _)) x2 x3
  cases hc : codeAmong pos ps.toList with
  | some cv =>
    obtain ⟨c', e, hco⟩ := ha pos cv hc
    subst e
    refine PySem.W.kdv_makeTailHit (mg := X.mg) (c := c) (P := P) (ps := ps) (closure_ok hfree) I.ok.glob (I.mod.glob.keeps I.bk) hcode (TB.code.keeps I.bk) oP ht hc bP fun ctv doc h' tk hx hsz => ?_
    exact lay H h' c' doc _ ctv tk (I.kept hx) (ExtN.refl H) hT hco
  | none =>
    refine PySem.W.kdv_makeTail (mg := X.mg) (c := c) (P := P) (ps := ps) (closure_ok hfree) I.ok.glob (I.mod.glob.keeps I.bk) hcode (TB.code.keeps I.bk) oP ht hc TB.gP bP fun c' ctv doc h' tk hx hge hlt hrec htb => ?_
    obtain ⟨c2, oc, vs, t, e2, hoc, hd, hv⟩ := hrec
    cases e2
    have nC : H c' = none := I.hok.fresh hge
    have I1 := inv_table (t' := tk) (more := #[rawInt pos.line, rawInt pos.col, .ref c']) (h' := h') I hP (fun b o hb e => hx b o hb e) htb hge ⟨oc, vs, t, hoc, hd, hv⟩
    have x1 : ExtN H (upd (upd H P (.tbl (ps ++ #[rawInt pos.line, rawInt pos.col, .ref c']))) c' (CodeO c' (X.env.qual ++ "<lambda>"))) := fun b o e n => by
      rw [upd_ne (ne_of_none e nC), upd_ne (fun z => n ps (Option.some.inj (e.symm.trans (by rw [z]; exact hP))))]
      exact e
    have eL : (ps ++ #[rawInt pos.line, rawInt pos.col, .ref c']).toList = ps.toList ++ [rawInt pos.line, rawInt pos.col, .ref c'] := by simp
    refine lay _ h' c' doc _ ctv tk I1 x1 (fun p hp => ?_) upd_same
    by_cases hb : p.1 = P
    · rw [hu p hp hb, hb]
      refine ⟨_, by rw [upd_ne (ne_of_none hP nC), upd_same], by rw [eL]; exact PySem.TriplesOk_snoc _ _ _ _ ht, fun p' cv hcv => ?_⟩
      rw [eL] at hcv
      rcases among_app _ ht hcv with z | z
      · obtain ⟨c0, e1, e2⟩ := ha p' cv z
        exact ⟨c0, e1, x1 _ _ e2 codeO_ne⟩
      · exact ⟨c', z, upd_same⟩
    · obtain ⟨ps', a1, a2, a3⟩ := hT p hp
      refine ⟨ps', by rw [upd_ne (ne_of_none a1 nC), upd_ne hb]; exact a1, a2, fun p' cv hcv => ?_⟩
      obtain ⟨c0, e1, e2⟩ := a3 p' cv hcv
      exact ⟨c0, e1, x1 _ _ e2 codeO_ne⟩
/-- the names that a lambda reads -/
structure LamL (sc scope : Scope) : Prop where
  kind : scope.kind = .function
  co : scope.isCoroutine = false
  gen : scope.isGenerator = false
  own : ∀ y ∈ scope.names, y.2 ≠ .cell
  free : ∀ y ∈ scope.names, y.2 = .free → sc.names.lookup y.1 = some .cell
def lamLB (sc scope : Scope) : Bool :=
  decide (scope.kind = .function) && !scope.isCoroutine && !scope.isGenerator && scope.names.all fun y => !decide (y.2 = .cell) && (!decide (y.2 = .free) || decide (sc.names.lookup y.1 = some .cell))
theorem lamL_by {sc scope : Scope} (h : lamLB sc scope = true) : LamL sc scope := by
  unfold lamLB at h
  simp only [Bool.and_eq_true, Bool.or_eq_true, Bool.not_eq_true', decide_eq_true_eq, decide_eq_false_iff_not, List.all_eq_true] at h
  obtain ⟨⟨⟨h1, h2⟩, h3⟩, h4⟩ := h
  refine ⟨h1, h2, h3, fun y hy => (h4 y hy).1, fun y hy e => ?_⟩
  rcases (h4 y hy).2 with z | z
  · exact absurd e z
  · exact z
theorem LamL.has {scope : Scope} (L : LamL X.env.scope scope) (ok : X.Ok) : ∀ y ∈ scope.names, y.2 = .free → ∃ c, X.env.cells.lookup y.1 = some c := fun y hy e => ok.has _ (.inl (L.free y hy e))
/-- without a default, of parameters -/
def tLambG (T : List (Addr × Str)) (q : Str) (params : Arguments) (body : Expr) (scope : Scope) (cl : List (Str × Addr)) : TE := fun _ H Q => Tabs T H ∧ ∀ (f c' : Addr) (H1 : Hp), ExtN H H1 → H1 f = none → Tabs T H1 → H1 c' = some (CodeO c' q) → Q (.ref f) (upd H1 f (LamG f q params body scope cl c' .none))
theorem pe_lambG {T : List (Addr × Str)} {c P : Addr} {params : Arguments} {body : Expr} {scope : Scope} {pos : Pos} (TB : TabB X.base X.mg c P) (hcode : X.env.code = .ref c) (hm : (P, X.env.qual ++ "<lambda>") ∈ T) (hu : ∀ p ∈ T, p.1 = P → p.2 = X.env.qual ++ "<lambda>")
    (L : LamL X.env.scope scope) (hdef : defaultsOf params X.env = ([], [])) : PE X (.Lambda params body scope pos) (tLambG T (X.env.qual ++ "<lambda>") params body scope (cloFrom X.env.cells scope.names [])) := by
  refine ⟨fun pins s σ H Q I h => ?_⟩
  refine PySem.W.kla_eval hdef ?_
  rw [makeFunction_eq]
  simp only [List.zip_nil_right, List.filterMap_nil, List.isEmpty_nil, if_true, pure_bind]
  exact lam_tail I TB hcode hm hu h.1 (L.has I.ok) fun f c' H1 s' J x1 x2 x3 x4 => ⟨.ref f, _, J, rfl, h.2 f c' H1 x1 x2 x3 x4⟩
/-- with one default -/
def tLambD (T : List (Addr × Str)) (td : TE) (q : Str) (params : Arguments) (body : Expr) (scope : Scope) (cl : List (Str × Addr)) : TE := fun σ H Q => td σ H fun v H0 => Tabs T H0 ∧ ∀ (t f c' : Addr) (H1 : Hp), H0 t = none → ExtN (upd H0 t (.tup [v])) H1 → H1 f = none → Tabs T H1 → H1 c' = some (CodeO c' q) → Q (.ref f) (upd H1 f (LamG f q params body scope cl c' (.ref t)))
theorem pe_lambD {T : List (Addr × Str)} {c P : Addr} {params : Arguments} {body : Expr} {scope : Scope} {pos : Pos} {e : Expr} {td : TE} (TB : TabB X.base X.mg c P) (hcode : X.env.code = .ref c) (hm : (P, X.env.qual ++ "<lambda>") ∈ T) (hu : ∀ p ∈ T, p.1 = P → p.2 = X.env.qual ++ "<lambda>")
    (L : LamL X.env.scope scope) (hd : params.defaults = [e]) (hk : params.kw_defaults = []) (pd : PE X e td) : PE X (.Lambda params body scope pos) (tLambD T td (X.env.qual ++ "<lambda>") params body scope (cloFrom X.env.cells scope.names [])) := by
  refine ⟨fun pins s σ H Q I h => ?_⟩
  refine PySem.W.kdv_lam (by rw [hd]; rfl) hk ?_
  rw [hd]
  refine PySem.W.kdv_all1 (thn (pd.run pins s σ H _ I h) fun u s1 ⟨v, H0, I1, r, q⟩ => PySem.W.kdv_all0 ?_)
  rw [makeFunction_eq]
  simp only [List.zip_nil_right, List.filterMap_nil, List.isEmpty_nil, List.isEmpty_cons, Bool.false_eq_true, if_false, if_true, pure_bind]
  refine wpAny_bind (wpAny_newTextTuple ?_)
  have I2 : Inv X pins σ (upd H0 s1.heap.objs.size (.tup [v])) { s1 with heap := s1.heap.push { cls := .type "tuple", data := .seq ([u] : List Value).toArray } } :=
    I1.laid (t' := s1.toks) (fun b o e => Heap.get?_push_of_some _ e) (Nat.le_refl _) ⟨by show (1 : Nat) ≤ sizeLine; decide, [u], .cons r .nil, IsTup.new s1.heap _⟩
  have n0 : H0 s1.heap.objs.size = none := I1.hok.fresh (Nat.le_refl _)
  exact lam_tail I2 TB hcode hm hu (q.1.ext (Ex.new n0)) (L.has I2.ok) fun f c' H1 s' J x1 x2 x3 x4 => ⟨.ref f, _, J, rfl, q.2 _ f c' H1 n0 x1 x2 x3 x4⟩
end
/-! ### what is called with arguments -/
def FunV (P : Program) (w : World) (K : PySem.W.Frag) (mg : Str → Option Value) (base : Heap) (k : Nat) (f : Addr) (vs : List V) (H : Hp) (Q : VK) (E : XK) : Prop :=
  ∀ (A : Around) (outer : List Env) (s : Shared) (us : List Value), Vals vs us → Room k A → A.guards = some [] → Env0 P w K mg base A outer s H → PySem.W.FnAt f s.heap ∧ codeAny (model P w) A (.call (.ref f) ⟨us, []⟩) (CR (L2.CX P w) outer P w H s Q E) s
theorem FunV.thunk {P : Program} {w : World} {K : PySem.W.Frag} {mg : Str → Option Value} {base : Heap} {k : Nat} {f : Addr} {H : Hp} {Q : VK} {E : XK} (h : FunV P w K mg base k f [] H Q E) : Thunk P w K mg base k f H Q E := fun A outer s hr hg e0 => h A outer s [] .nil hr hg e0
/-- the lambda's parameter x, given v or filled up with v -/
theorem lam_fun1 {P : Program} {w : World} {K : PySem.W.Frag} {mg : Str → Option Value} {base : Heap} {k : Nat} {f c : Addr} {H : Hp} {Q : VK} {E : XK} {N : List Str} {σ : L2.St} {q : Str} {params : Arguments} {body : Expr} {scope : Scope} {cl : List (Str × Addr)} {dV : Value} {t : TE} {x : Str} {v : V} {vs : List V}
    (h1 : scope.kind = .function) (h2 : scope.isCoroutine = false) (h3 : scope.isGenerator = false) (own : ∀ y ∈ scope.names, y.2 ≠ .cell) (hx : scope.names.lookup x = some .local) (ho : ∀ y, scope.names.lookup y = some .local → y = x)
    (C : CellsIn base cl scope N σ) (hv : ∀ (i : Nat) (u : V), N[i]? = some x → σ[i]? = some (some u) → u = v) (hf : LamAt f q params body scope cl c dV H) (hc : H c = some (CodeO c q))
    (hbind : ∀ (us : List Value) (s : Shared) (doc pm cv ctv : Value), HOk P w H s.heap → Vals vs us → ∃ u, RelV v u ∧ BindsTo s (PySem.W.kdv_fn "<lambda>" q params (.expr body) scope cl dV doc pm cv ctv) ⟨us, []⟩ [(x, u)])
    (hbody : ∀ (A : Around) (outer : List Env) (s : Shared), Room k (A.deeper (PySem.W.envX q scope s.heap.objs.size f (.ref c) cl)) → A.guards = some [] → PE (lamC P w K mg base N q scope f c cl A outer s H E) body t) (ht : t σ H Q) : FunV P w K mg base (k + 1) f vs H Q E := by
  intro A outer s us hus hr hg e0
  obtain ⟨doc, pm, ctv, of⟩ := hf P w _ e0.hok
  obtain ⟨⟨oc, cs, tq, hoc, hdc, hvc⟩, _, _⟩ := e0.hok c _ hc
  obtain ⟨u, ru, hb⟩ := hbind us s doc pm (.ref c) ctv e0.hok hus
  refine ⟨⟨_, _, _, _, of⟩, ?_⟩
  have lim : s.heap.NoLimit := e0.mod.nolimit.keeps fun b o e => (e0.bs b o e).1
  refine PySem.W.kla_callFunE hr.depth of rfl h2 h3 rfl ⟨c, oc, cs, tq, rfl, hoc, hdc, hvc⟩ ?_
  refine hb _ _ _ _ (wpAny_newFunctionEnv own (fun y hy => by rw [List.mem_singleton.mp hy]; exact hx) (fun h₁ hns hsb => ⟨lim.fresh _ hsb, ?_⟩) h1)
  show codeAny _ _ (.expr body (PySem.W.envX q scope s.heap.objs.size f (.ref c) cl)) _ _
  have kp : ∀ b o, s.heap.get? b = some o → h₁.get? b = some o := fun b o e => hsb.extBut b o (Nat.ne_of_lt (Heap.lt_size e)) (Heap.get?_push_of_some _ e)
  have bc : ∀ {c : Addr} {v : Option Value}, base.IsCell c v → h₁.IsCell c v ∧ H c = none := fun {c v} ⟨o, ho, hd⟩ => ⟨⟨o, kp _ _ (e0.bs _ _ ho).1, hd⟩, (e0.bs _ _ ho).2⟩
  have J : Inv (lamC P w K mg base N q scope f c cl A outer s H E) [] σ H { s with heap := h₁, toks := s.toks + [(x, u)].length } := by
    refine ⟨⟨e0.mod, h1, rfl, rfl, Nat.le_refl _, C.inj, fun y hy => ?_, (fun y c z _ => Bool.noConfusion (show false = true from z)), fun _ => hr.hd, Around.frames_deeper e0.frames, .inr ⟨rfl, rfl⟩, (fun b z => absurd (show b ∈ ([] : List Addr) from z) (by simp)), e0.bs, e0.bsz, (fun b _ _ z => absurd (show b ∈ ([] : List Addr) from z) (by simp)), (fun b z => absurd (show b ∈ ([] : List Addr) from z) (by simp)), e0.funs, e0.frf⟩,
      rfl, e0.bare, Un.kept kp, ⟨_, hns, fun i y v' e1 e2 e3 => ?_⟩, fun y c e => ?_, e0.hok.fresh (Nat.le_refl _), fun y c e => ?_, fun p hp => absurd (show p ∈ ([] : List (Addr × Obj)) ++ [] from hp) (by simp), e0.hok.kept kp, C.len⟩
    · rcases hy with z | z
      · exact absurd rfl (own _ (PySem.mem_of_lookup z))
      · exact C.has y z
    · rcases e3 with z | z | z
      · have ey := ho y z
        subst ey
        have ev := hv i v' e1 e2
        subst ev
        exact ⟨u, ru, .inl ⟨z, by show List.lookup y [(y, u)] = some u; rw [List.lookup_cons]; simp⟩⟩
      · exact absurd rfl (own _ (PySem.mem_of_lookup z))
      · obtain ⟨c0, u', g1, g2, g3⟩ := C.val i y v' e1 e2 z
        exact ⟨u', g3, .inr ⟨.inr z, c0, g1, (bc g2).1⟩⟩
    · obtain ⟨v, z⟩ := C.cell y c e
      exact ⟨v, (bc z).1⟩
    · obtain ⟨v, z⟩ := C.cell y c e
      exact (bc z).2
  refine PySem.W.kla_codeExpr (wpAny_mono ((hbody A outer s (hr.deeper _) hg).run [] _ _ H Q J ht) (fun v s' hq => ?_) fun e s' hq => hq)
  obtain ⟨v', H', J', rv, z⟩ := hq
  exact ⟨v', H', J'.os, J'.bare, J'.base, J'.hok, rv, z⟩
/-! ### its call by a name -/
section
variable {X : Cx}
def FnH (f : Addr) (H : Hp) : Prop := ∀ (P : Program) (w : World) (h : Heap), HOk P w H h → PySem.W.FnAt f h
theorem LamAt.fn {f : Addr} {q : Str} {params : Arguments} {body : Expr} {scope : Scope} {cl : List (Str × Addr)} {c : Addr} {dV : Value} {H : Hp} (h : LamAt f q params body scope cl c dV H) : FnH f H := fun P w hp ok => by
  obtain ⟨_, _, _, e⟩ := h P w hp ok
  exact ⟨_, _, _, _, e⟩
def tFunS (P : Program) (w : World) (K : PySem.W.Frag) (mg : Str → Option Value) (base : Heap) (k i : Nat) (W : WX) (t : TA) : TE := fun σ H Q => ∃ f : Addr, σ[i]? = some (some (.ref f)) ∧ FnH f H ∧ t σ H fun vs H1 => FunV P w K mg base k f vs H1 Q (fun cls d H' => W cls d σ H')
theorem pe_funS {W : WX} {i k : Nat} {x : Str} {p pos : Pos} {e : Expr} {es : List Expr} {t : TA} (hr : Room k X.A) (hg : X.A.guards = some []) (tk : Takes X W) (hN : X.N[i]? = some x) (hv : Vis X.env.scope x) (ha : PA X (e :: es) t) (hdb : (x == ("__debug__" : Str)) = false := by decide) (hcd : (x == ("__classdict__" : Str)) = false := by decide)
    (he : starEach (e :: es) X.env = (false, eval e X.env) :: starEach es X.env := by rfl) (hpl : (backTo pos (starEach es X.env)).any (·.1) = false := by rfl) :
    PE X (.Call (.Name x p) (e :: es) [] pos) (tFunS X.prog X.w X.K X.mg X.base k i W t) := by
  refine ⟨fun pins s σ H Q I h => ?_⟩
  obtain ⟨f, hs, fh, th⟩ := h
  refine wpAny_Call_Name_kw (thn ((pe_var (pos := p) hN hv hdb hcd).run pins s σ H (fun v H1 => v = .ref f ∧ H1 = H) I ⟨.ref f, hs, rfl, rfl⟩) fun u s1 ⟨v, H1, I1, r1, q1⟩ => ?_)
  obtain ⟨rfl, rfl⟩ := q1
  obtain rfl : u = Value.ref f := r1
  refine PySem.W.callWith_F (fh _ _ _ I1.hok) (thn (ha.run pos pins s1 σ _ _ I1 th) fun us s2 ⟨vs, H2, I2, r2, q2⟩ => ?_) he hpl
  obtain ⟨fa, rc⟩ := q2 X.A X.stack s2 us r2 hr hg I2.env0
  refine ⟨fa, wpAny_call (codeAny_mono rc fun r s' hq => ?_)⟩
  cases r with
  | error e => exact (passAt tk σ) pins _ s2 e s' I2 hq
  | ok fl =>
    cases fl with
    | ret u => exact I2.after hq
    | next => exact False.elim hq
    | brk => exact False.elim hq
    | cont => exact False.elim hq
/-! ### a call that may read the frame's own cells -/
/-- what is known of the greater base, and of the frame -/
structure BaseI (X : Cx) (σ : L2.St) (B : Heap) : Prop where
  mod : L2.Mod X.K X.mg B
  val : ∀ (i : Nat) x v, X.N[i]? = some x → σ[i]? = some (some v) → X.env.scope.names.lookup x = some .cell → ∃ c u, X.env.cells.lookup x = some c ∧ B.IsCell c (some u) ∧ RelV v u
  inj : ∀ x y c, X.env.cells.lookup x = some c → X.env.cells.lookup y = some c → x = y
  has : ∀ x, (X.env.kindOf x = some .cell ∨ X.env.kindOf x = some .free) → ∃ c, X.env.cells.lookup x = some c
  cell : ∀ x c, X.env.cells.lookup x = some c → ∃ v, B.IsCell c v
  len : σ.length = X.N.length
theorem baseI_of {pins : List (Addr × Obj)} {σ : L2.St} {H : Hp} {s : Shared} {B : Heap} (I : Inv X pins σ H s) (b : Based X s H B) : BaseI X σ B :=
  ⟨b.mod, (baseOk_of I b).val, I.ok.inj, I.ok.has, fun x c e => let ⟨v, z⟩ := I.cell x c e; ⟨v, b.cell x c v e z⟩, I.len⟩
theorem clo_back {cells : List (Str × Addr)} {names : List (Str × NameKind)} (hfree : ∀ y ∈ names, y.2 = .free → ∃ c, cells.lookup y.1 = some c) {y : Str} {c : Addr} (e : (cloFrom cells names []).lookup y = some c) : (y, NameKind.free) ∈ names ∧ cells.lookup y = some c := by
  rcases cloFrom_mem (PySem.mem_of_lookup e) with hm | ⟨h1, h2⟩
  · cases hm
  · obtain ⟨c1, hc⟩ := hfree _ h1 rfl
    have hc : cells.lookup y = some c1 := hc
    refine ⟨h1, ?_⟩
    rw [h2, hc]
    rfl
theorem cellsOf {σ : L2.St} {B : Heap} {scope : Scope} (hB : BaseI X σ B) (L : LamL X.env.scope scope) : CellsIn B (cloFrom X.env.cells scope.names []) scope X.N σ := by
  have hfree : ∀ y ∈ scope.names, y.2 = .free → ∃ c, X.env.cells.lookup y.1 = some c := fun y hy e => hB.has _ (.inl (L.free y hy e))
  refine ⟨fun x y c h1 h2 => hB.inj x y c (clo_back hfree h1).2 (clo_back hfree h2).2, fun x hx => mem_lookup (cloFrom_has (acc := []) (PySem.mem_of_lookup hx)), fun x c h => hB.cell x c (clo_back hfree h).2, fun i x v h1 h2 h3 => ?_, hB.len⟩
  have hm := PySem.mem_of_lookup h3
  obtain ⟨c, u, g1, g2, g3⟩ := hB.val i x v h1 h2 (L.free _ hm rfl)
  obtain ⟨c', hc'⟩ := mem_lookup (cloFrom_has (cells := X.env.cells) (acc := []) hm)
  have e := (clo_back hfree hc').2
  rw [g1] at e
  cases e
  exact ⟨c, u, hc', g2, g3⟩
theorem cellsOf1 {σ : L2.St} {B : Heap} {scope : Scope} {x : Str} {v : V} (hB : BaseI X σ B) (L : LamL X.env.scope scope) (hx : scope.names.lookup x = some .local) : CellsIn B (cloFrom X.env.cells scope.names []) scope (x :: X.N) (some v :: σ) := by
  have C := cellsOf hB L
  refine ⟨C.inj, C.has, C.cell, fun i y w h1 h2 h3 => ?_, by rw [List.length_cons, List.length_cons, C.len]⟩
  cases i with
  | zero =>
    have e : x = y := by simpa using h1
    subst e
    rw [hx] at h3
    cases h3
  | succ i => exact C.val i y w (by simpa using h1) (by simpa using h2) h3
/-- a lambda without parameters -/
theorem lam_T0 {P : Program} {w : World} {K : PySem.W.Frag} {mg : Str → Option Value} {σ : L2.St} {B : Heap} {H : Hp} {k : Nat} {q : Str} {params : Arguments} {body : Expr} {scope : Scope} {f c : Addr} (hB : BaseI X σ B) (L : LamL X.env.scope scope) (hn : ∀ y ∈ scope.names, y.2 ≠ .local)
    (hf : H f = some (LamO f q params body scope (cloFrom X.env.cells scope.names []) c)) (hco : H c = some (CodeO c q)) (hbind : ∀ (cl : List (Str × Addr)) (pm cv ctv : Value), bindArgs (PySem.W.kla_fn "<lambda>" q params body scope cl pm cv ctv) ⟨[], []⟩ = pure []) {Q : VK} {E : XK} {t : TE}
    (hbody : ∀ (cl : List (Str × Addr)) (A : Around) (outer : List Env) (s : Shared), Room k (A.deeper (PySem.W.envX q scope s.heap.objs.size f (.ref c) cl)) → A.guards = some [] → PE (lamC P w K mg B X.N q scope f c cl A outer s H E) body t) (ht : t σ H Q) : Thunk P w K mg B (k + 1) f H Q E :=
  lam_thunk ⟨L.kind, L.co, L.gen, fun y hy => ⟨hn y hy, L.own y hy⟩⟩ (cellsOf hB L) hf hco (hbind _) (hbody _) ht
/-- a lambda with the parameter x, which gets v -/
theorem lam_G1 {P : Program} {w : World} {K : PySem.W.Frag} {mg : Str → Option Value} {σ : L2.St} {B : Heap} {H : Hp} {k : Nat} {q : Str} {params : Arguments} {body : Expr} {scope : Scope} {f c : Addr} {dV : Value} {x : Str} {v : V} {vs : List V} (hB : BaseI X σ B) (L : LamL X.env.scope scope)
    (hx : scope.names.lookup x = some .local) (ho : ∀ y, scope.names.lookup y = some .local → y = x) (hxN : x ∉ X.N) (hf : LamAt f q params body scope (cloFrom X.env.cells scope.names []) c dV H) (hc : H c = some (CodeO c q))
    (hbind : ∀ (cl : List (Str × Addr)) (us : List Value) (s : Shared) (doc pm cv ctv : Value), HOk P w H s.heap → Vals vs us → ∃ u, RelV v u ∧ BindsTo s (PySem.W.kdv_fn "<lambda>" q params (.expr body) scope cl dV doc pm cv ctv) ⟨us, []⟩ [(x, u)]) {Q : VK} {E : XK} {t : TE}
    (hbody : ∀ (cl : List (Str × Addr)) (A : Around) (outer : List Env) (s : Shared), Room k (A.deeper (PySem.W.envX q scope s.heap.objs.size f (.ref c) cl)) → A.guards = some [] → PE (lamC P w K mg B (x :: X.N) q scope f c cl A outer s H E) body t) (ht : t (some v :: σ) H Q) : FunV P w K mg B (k + 1) f vs H Q E :=
  lam_fun1 L.kind L.co L.gen L.own hx ho (cellsOf1 hB L hx) (fun i u h1 h2 => by
    cases i with
    | zero => simpa using h2.symm
    | succ i => exact absurd (List.mem_of_getElem? (show X.N[i]? = some x by simpa using h1)) hxN) hf hc (hbind _) (hbody _) ht
/-- the default value, out of the tuple that holds it -/
theorem dflt_of {P : Program} {w : World} {H : Hp} {h : Heap} {t : Addr} {v : V} (ok : HOk P w H h) (ht : H t = some (.tup [v])) : ∃ (u : Value) (o : Obj) (n : Nat), RelV v u ∧ h.get? t = some o ∧ o.data = .seq #[u] n := by
  obtain ⟨_, its, r, o, ho, _, n, hd⟩ := ok t _ ht
  match its, r with
  | [u], .cons r .nil => exact ⟨u, o, n, r, ho, hd⟩
def tCallB (X : Cx) (sp : Heap → Sp) (t : TA) : TE := fun σ H Q => t σ H fun vs H1 => ∀ B, BaseI X σ B → sp B vs H1 Q E0
theorem pe_callB2 {x : Str} {f : Addr} {k : Nat} {ps : List Str} {sp : Heap → Sp} {p pos : Pos} {e : Expr} {es : List Expr} {t : TA} (hfn : ∀ x, X.fn x = true) (hr : Room k X.A) (hgd : X.A.guards = some []) (hg : Gl X x) (hm : X.mg x = some (.ref f)) (hk : PySem.W.keepIn X.K (.ref f) = true)
    (F : ∀ B, L2.Mod X.K X.mg B → ∃ fd, Binds X.K fd ps [] ∧ FnG X.prog X.w X.K X.mg B CX0 k f fd ps (sp B)) (ha : PA X (e :: es) t) (hdb : (x == ("__debug__" : Str)) = false := by decide)
    (he : starEach (e :: es) X.env = (false, eval e X.env) :: starEach es X.env := by rfl) (hpl : (backTo pos (starEach es X.env)).any (·.1) = false := by rfl) : PE X (.Call (.Name x p) (e :: es) [] pos) (tCallB X sp t) := by
  refine ⟨fun pins s σ H Q I h => ?_⟩
  refine wpAny_Call_Name_kw (ld_glob I hg hm ?_ hdb)
  refine PySem.W.callWith_K (h₀ := X.base) I.ok.mod.kin hk (thn (ha.run pos pins s σ H _ I h) fun us s2 ⟨vs, H2, I2, r, q⟩ => ⟨I2.kIn, ?_⟩) he hpl
  obtain ⟨B, b⟩ := based I2 hfn
  obtain ⟨fd, hb, F⟩ := F B b.mod
  have q' : sp B vs H2 Q E0 := q B (baseI_of I2 b)
  have hl : (us ++ []).length = ps.length := by rw [List.append_nil, ← r.length]; exact F.len _ _ _ _ q'
  have hbind := hb s2 us I2.kIn hl
  rw [List.append_nil] at hbind
  have e0 := I2.env0
  have e1 : Env0 X.prog X.w X.K X.mg B X.A X.stack s2 H2 := ⟨e0.frames, b.mod, fun c o ec => let ⟨g1, g2, _⟩ := b.bs c o ec; ⟨g1, g2⟩, b.sz, b.fun_ (fun _ hm => hm) e0.funs, e0.frf, e0.hok, e0.bare⟩
  refine wpAny_call (codeAny_mono (F.run X.A X.stack s2 H2 ⟨us, []⟩ us vs Q E0 hr hgd e1 hbind r q') fun r' s' q => ?_)
  cases r' with
  | error er => exact False.elim q
  | ok fl =>
    cases fl with
    | ret u => exact I2.after q
    | next => exact False.elim q
    | brk => exact False.elim q
    | cont => exact False.elim q
end
end TC
set_option maxHeartbeats 2000000
/-! Words of such lambdas; lists told by words, laid together. -/
namespace TC
open PySem PySem.Spec PyProof.Rows L2 LamX Evl
theorem lamG_ne {f : Addr} {q : Str} {params : Arguments} {body : Expr} {scope : Scope} {cl : List (Str × Addr)} {c : Addr} {dV : Value} : ∀ ps, LamG f q params body scope cl c dV ≠ .tbl ps := fun ps z => nomatch z
/-- a lambda without defaults -/
def LamGW (q : Str) (params : Arguments) (body : Expr) (scope : Scope) (cl : List (Str × Addr)) : V → Hp → Prop := fun v H => ∃ f c, v = .ref f ∧ H f = some (LamG f q params body scope cl c .none) ∧ H c = some (CodeO c q)
/-- a lambda with one default value -/
def LamDW (q : Str) (params : Arguments) (body : Expr) (scope : Scope) (cl : List (Str × Addr)) (d : V) : V → Hp → Prop := fun v H => ∃ f c t, v = .ref f ∧ H f = some (LamG f q params body scope cl c (.ref t)) ∧ H c = some (CodeO c q) ∧ H t = some (.tup [d])
section
variable {TT : List (Addr × Str)} {K : PySem.W.Frag} {σ : L2.St} {H : Hp} {te tx : TE} {ta : TA} {P : V → Hp → Prop} {D : Ends} {tz tu : TS} {g : TG} {q : Str} {params : Arguments} {body : Expr} {scope : Scope} {cl : List (Str × Addr)}
theorem em_lamG : EvM TT (tLambG TT q params body scope cl) σ H (LamGW q params body scope cl) := ⟨fun H1 e t Q q' =>
  ⟨t, fun f c H2 e2 nf t2 hc => q' _ _ (e2.trans (Ex.extN (Ex.new nf))) (t2.ext (Ex.new nf)) ⟨f, c, rfl, upd_same, (Ex.new nf) _ _ hc⟩⟩, fun v H H' e ⟨f, c, h1, h2, h3⟩ => ⟨f, c, h1, e _ _ h2 lamG_ne, e _ _ h3 codeO_ne⟩⟩
theorem em_lamD {d : V} : EvM TT (tLambD TT (tC d) q params body scope cl) σ H (LamDW q params body scope cl d) := ⟨fun H1 e t Q q' =>
  ⟨t, fun tt f c H2 nt e2 nf t2 hc => q' _ _ (((Ex.extN (Ex.new nt)).trans e2).trans (Ex.extN (Ex.new nf))) (t2.ext (Ex.new nf)) ⟨f, c, tt, rfl, upd_same, (Ex.new nf) _ _ hc, (Ex.new nf) _ _ (e2 _ _ upd_same (fun _ z => nomatch z))⟩⟩, fun v H H' e ⟨f, c, t, h1, h2, h3, h4⟩ => ⟨f, c, t, h1, e _ _ h2 lamG_ne, e _ _ h3 codeO_ne, e _ _ h4 (fun _ z => nomatch z)⟩⟩
theorem s_asgN {i : Nat} (h : EvM TT te σ H P) (t : Tabs TT H) (k : ∀ v H1, ExtN H H1 → Tabs TT H1 → P v H1 → D.nx (σ.set i (some v)) H1) : tAsg te (gName i) D σ H := h.1 H (ExtN.refl H) t _ fun v H1 e t1 p => k v H1 e t1 p
theorem q_asgNT {i : Nat} (h : EvM TT te σ H P) (t : Tabs TT H) (k : ∀ v H1, ExtN H H1 → Tabs TT H1 → P v H1 → tz D (σ.set i (some v)) H1) : tSeq (tAsg te (gName i)) tz D σ H := s_asgN (D := { D with nx := tz D }) h t k
/-- for x in a new list of such -/
theorem s_forN {Ps : List (V → Hp → Prop)} {tl : TE} (h : EvM TT tl σ H (LstN Ps)) (t : Tabs TT H) (Pv : Addr → List V → Nat → L2.St → Hp → Prop) (h0 : ∀ a vs H1, ExtN H H1 → Tabs TT H1 → H1 a = some (.lst vs) → AllP Ps vs H1 → Pv a vs 0 σ H1) (hl : ∀ a vs i σ' H', i ≤ vs.length → Pv a vs i σ' H' → SqL K H' a vs)
    (hs : ∀ a vs i x σ' H', vs.length = Ps.length → vs[i]? = some x → Pv a vs i σ' H' → g x σ' H' fun σ2 H2 => tu { D with nx := Pv a vs (i + 1), ct := Pv a vs (i + 1), bk := D.nx } σ2 H2) (hd : ∀ a vs σ' H', Pv a vs Ps.length σ' H' → D.nx σ' H') : tFor (iAny K tl) g tu D σ H :=
  h.1 H (ExtN.refl H) t _ fun v H1 e t1 ⟨a, vs, ev, ha, hall⟩ => ev ▸ ⟨false, a, rfl, ⟨vs, SqB.l (sq_of ha)⟩, for_it walk_B (Pv a vs) (h0 a vs H1 e t1 ha hall) (fun i σ' H' hi p => SqB.l (hl a vs i σ' H' hi p)) (fun i x σ' H' H'' _ p y => by obtain ⟨rfl, y2⟩ := y; exact hs a vs i x σ' H'' hall.1 y2 p) (fun σ' H' p => hd a vs σ' H' (hall.1 ▸ p))⟩
theorem AllP.app {Ps Qs : List (V → Hp → Prop)} {vs us : List V} (h : AllP Ps vs H) (h2 : AllP Qs us H) : AllP (Ps ++ Qs) (vs ++ us) H := ⟨by rw [List.length_append, List.length_append, h.1, h2.1], fun i v P h3 h4 => by
  by_cases hi : i < vs.length
  · rw [List.getElem?_append_left hi] at h3
    rw [List.getElem?_append_left (by rw [← h.1]; exact hi)] at h4
    exact h.2 i v P h3 h4
  · rw [List.getElem?_append_right (by omega)] at h3
    rw [List.getElem?_append_right (by rw [← h.1]; omega), ← h.1] at h4
    exact h2.2 _ v P h3 h4⟩
theorem AllP.rep {Ps : List (V → Hp → Prop)} {vs : List V} (h : AllP Ps vs H) : ∀ k : Nat, AllP (List.replicate k Ps).flatten (List.replicate k vs).flatten H
  | 0 => AllP.nil
  | k + 1 => by
    rw [List.replicate_succ, List.replicate_succ, List.flatten_cons, List.flatten_cons]
    exact h.app (AllP.rep h k)
theorem allP_N {Ps : List (V → Hp → Prop)} {vs : List V} {H' : Hp} (m : ∀ P ∈ Ps, MonN P) (e : ExtN H H') (h : AllP Ps vs H) : AllP Ps vs H' := ⟨h.1, fun i v P h3 h4 => m P (List.mem_of_getElem? h4) v _ _ e (h.2 i v P h3 h4)⟩
/-- x + [..], x a name -/
theorem em_cat {i : Nat} {a : Addr} {Ps Qs : List (V → Hp → Prop)} (hs : σ[i]? = some (some (.ref a))) (h1 : LstN Ps (.ref a) H) (m : ∀ P ∈ Ps, MonN P) (h2 : EvM TT tx σ H (LstN Qs)) (m2 : ∀ P ∈ Qs, MonN P) (hz : Ps.length + Qs.length ≤ 100000) : EvM TT (tOp rCat (tVar i) tx) σ H (LstN (Ps ++ Qs)) := ⟨fun H1 e t Q q =>
  ⟨.ref a, hs, h2.1 H1 e t _ fun v H2 e2 t2 ⟨b, us, ev, hb, hu⟩ => by
    obtain ⟨a', vs, ea, ha, hv⟩ := h1
    cases ea
    have e12 := e.trans e2
    exact ⟨a, b, vs, us, rfl, ev, e12 _ _ ha (fun _ z => nomatch z), hb, sz_of (by rw [hv.1, hu.1]; exact hz), fun p hp => q _ _ (e2.trans (Ex.extN (Ex.new hp))) (t2.ext (Ex.new hp)) ⟨p, _, rfl, upd_same, (allP_N m (e12.trans (Ex.extN (Ex.new hp))) hv).app (allP_N m2 (Ex.extN (Ex.new hp)) hu)⟩⟩⟩, monN_lst (fun P hP => (List.mem_append.mp hP).elim (m P) (m2 P))⟩
/-! without tables -/
theorem ep_lstW {Ps : List (V → Hp → Prop)} (m : ∀ P ∈ Ps, MonP P) (h : EvAP ta σ H (AllP Ps)) (hl : Ps.length ≤ 100000) : EvP (tLst ta) σ H (LstN Ps) := fun H1 e Q q =>
  h H1 e _ fun vs H2 e2 p => ⟨sz_of (by rw [p.1]; exact hl), fun a ha => q _ _ (e2.trans (Ex.new ha)) ⟨a, vs, rfl, upd_same, AllP.ex m (Ex.new ha) p⟩⟩
theorem ep_repW {Ps : List (V → Hp → Prop)} {k : Nat} (m : ∀ P ∈ Ps, MonP P) (h : EvP te σ H (LstN Ps)) (hk : Ps.length * k ≤ 100000) (hk2 : k ≤ 100000) : EvP (tOp rRep te (tC (.int (k : Int)))) σ H (LstN (List.replicate k Ps).flatten) := fun H1 e Q q =>
  h H1 e _ fun v H2 e2 ⟨a, vs, ev, ha, hv⟩ => ⟨a, (k : Int), vs, ev, rfl, ha, by omega, by omega, sz_of (by rw [hv.1, Int.toNat_natCast]; exact hk), fun p hp => q _ _ (e2.trans (Ex.new hp)) ⟨p, _, rfl, upd_same, by
    rw [Int.toNat_natCast]
    exact (AllP.ex m (Ex.new hp) hv).rep k⟩⟩
theorem ep_catW {Ps Qs : List (V → Hp → Prop)} (m : ∀ P ∈ Ps, MonP P) (m2 : ∀ P ∈ Qs, MonP P) (h : EvP te σ H (LstN Ps)) (h2 : EvP tx σ H (LstN Qs)) (hz : Ps.length + Qs.length ≤ 100000) : EvP (tOp rCat te tx) σ H (LstN (Ps ++ Qs)) := fun H1 e Q q =>
  h H1 e _ fun v H2 e2 ⟨a, vs, ev, ha, hv⟩ => h2 H2 (e.trans e2) _ fun u H3 e3 ⟨b, us, eu, hb, hu⟩ => ⟨a, b, vs, us, ev, eu, e3 _ _ ha, hb, sz_of (by rw [hv.1, hu.1]; exact hz), fun p hp => q _ _ ((e2.trans e3).trans (Ex.new hp)) ⟨p, _, rfl, upd_same, (AllP.ex m (e3.trans (Ex.new hp)) hv).app (AllP.ex m2 (Ex.new hp) hu)⟩⟩
theorem MonN.p {P : V → Hp → Prop} (m : MonN P) : MonP P := fun v H H' e h => m v H H' (Ex.extN e) h
theorem rd_cons1 {tr : TA} {Q : List V → Hp → Prop} {P : V → Hp → Prop} (h : EvP te σ H P) (k : ∀ v H2, Ex H H2 → P v H2 → tr σ H2 (fun vs H3 => Q (v :: vs) H3)) : tCons te tr σ H Q := h H (Ex.refl H) _ k
theorem ho_of {names : List (Str × NameKind)} {x : Str} (h : (names.all fun p => !decide (p.2 = .local) || decide (p.1 = x)) = true) : ∀ y, names.lookup y = some .local → y = x := fun y hy => by
  have := List.all_eq_true.mp h _ (PySem.mem_of_lookup hy)
  simpa using this
end
end TC
set_option maxHeartbeats 4000000
/-! tuple * int, once: the tuple itself. -/
namespace TC
open PySem PySem.Spec PyProof.Rows L2 Evl
theorem tuple_once (l : Addr) (items : Array Value) (n : Nat) (dd : Option Addr) (sl : Array (Option Value)) (u : Tok) :
    Meets (Builtin.«tuple.__mul__» ⟨[.ref l, .int 1 u], []⟩) (fun _ R s => s.heap.get? l = some { cls := .type "tuple", dict := dd, data := .seq items n, slots := sl } ∧ R (.ok (.ret (Value.ref l))) s) :=
  .of_wp fun prog w A R s h => by
    obtain ⟨hq, g, d, tq, os⟩ := s
    obtain ⟨hl, h⟩ := h
    have f1 := AutoSeq1.idx_int
    have c1 : (items.isEmpty || (1 : Int) == 1) = true := by rw [Bool.or_eq_true]; exact .inr rfl
    wp_walk using wpAny_loadPart' hl
    repeat (first
      | (refine wpAny_ite_false (decide_eq_false (by decide)) ?_; wp_walk using wpAny_loadPart' hl)
      | (refine wpAny_ite_true (decide_eq_true c1) ?_; wp_walk using wpAny_loadPart' hl)
      | (refine wpAny_ite_true (decide_eq_true rfl) ?_; wp_walk using wpAny_loadPart' hl))
    exact ⟨_, rfl, h⟩
/-- a tuple, as often as you like but none -/
def rRepA (K : PySem.W.Frag) : R2 := fun x y H Q => (∃ l xs, x = .ref l ∧ y = .int 1 ∧ SqT K H l xs ∧ Q (.ref l) H) ∨ rRepT K x y H Q
section
variable {X : Cx}
theorem op_repA : OpR X (binaryOp .Mult) (rRepA X.K) := by
  intro pins s σ H x y v u Q I rx ry h
  rcases h with ⟨l, xs, rfl, rfl, hT, q⟩ | h
  · cases rx
    obtain ⟨t, rfl⟩ := ry
    obtain ⟨its, r, ⟨⟨cl, dd, dat, sl⟩, ho, hc, n, hd⟩, hs⟩ := I.tuple hT
    simp only at hc hd
    subst hc hd
    exact wpAny_binaryOp_repeat_ref (T := "tuple") (U := "int") (by decide) ⟨_, ho, rfl⟩ (fun s' => typeIs_int s' 1 t) noFill_tuple_mul F.fills_int_mul F.slot_int_rmul repeat_tuple F.slot_int_index.lookup
      (call_meets F.slot_int_rmul (typeIs_int s 1 t) F.entry_int_rmul (F.args_int_rmul_2 _ _) (int_rmul_tuple 1 t l its.toArray n dd sl)
        ⟨ho, rfl, ⟨_, ho, rfl⟩, call_meets F.slot_tuple_mul ⟨_, ho, rfl⟩ F.entry_tuple_mul (F.args_tuple_mul_2 _ _) (tuple_once l its.toArray n dd sl t) ⟨ho, ⟨.ref l, _, I, rfl, q⟩⟩⟩)
  · exact op_repT pins s σ H x y v u Q I rx ry h
end
end TC
set_option maxHeartbeats 0
namespace K42
open PySem PySem.Spec PyProof.Rows L2 He TC
structure Wk (h0 : Heap) (K : PySem.W.Frag) (mg : Str → Option Value) (base : Heap) : Prop where
  says : SaysZ fa fn er tf ex h0 K
  kin : K.In base
  glob : base.Ns mainGlobals mg
section
variable {h0 base : Heap} {K : PySem.W.Frag} {mg : Str → Option Value}
theorem g_is_integer (T : Wk h0 K mg base) : mg "is_integer" = some (.ref (ga K "is_integer")) := glo_ok T.kin T.glob (T.says.d.fact 0 (f := .glo "is_integer") rfl)
theorem g_is_count (T : Wk h0 K mg base) : mg "is_count" = some (.ref (ga K "is_count")) := glo_ok T.kin T.glob (T.says.d.fact 1 (f := .glo "is_count") rfl)
theorem g_is_row (T : Wk h0 K mg base) : mg "is_row" = some (.ref (ga K "is_row")) := glo_ok T.kin T.glob (T.says.d.fact 2 (f := .glo "is_row") rfl)
theorem g_kept (T : Wk h0 K mg base) : mg "kept" = some (.ref (ga K "kept")) := glo_ok T.kin T.glob (T.says.d.fact 3 (f := .glo "kept") rfl)
theorem g_is_number (T : Wk h0 K mg base) : mg "is_number" = some (.ref (ga K "is_number")) := glo_ok T.kin T.glob (T.says.d.fact 4 (f := .glo "is_number") rfl)
theorem g_plain_ratio (T : Wk h0 K mg base) : mg "plain_ratio" = some (.ref (ga K "plain_ratio")) := glo_ok T.kin T.glob (T.says.d.fact 5 (f := .glo "plain_ratio") rfl)
theorem g_ratio_of (T : Wk h0 K mg base) : mg "ratio_of" = some (.ref (ga K "ratio_of")) := glo_ok T.kin T.glob (T.says.d.fact 6 (f := .glo "ratio_of") rfl)
theorem g_need_numbers (T : Wk h0 K mg base) : mg "need_numbers" = some (.ref (ga K "need_numbers")) := glo_ok T.kin T.glob (T.says.d.fact 7 (f := .glo "need_numbers") rfl)
theorem g_without_zeros (T : Wk h0 K mg base) : mg "without_zeros" = some (.ref (ga K "without_zeros")) := glo_ok T.kin T.glob (T.says.d.fact 8 (f := .glo "without_zeros") rfl)
theorem g_poly_value_at (T : Wk h0 K mg base) : mg "poly_value_at" = some (.ref (ga K "poly_value_at")) := glo_ok T.kin T.glob (T.says.d.fact 9 (f := .glo "poly_value_at") rfl)
theorem g_is_integers (T : Wk h0 K mg base) : mg "is_integers" = some (.ref (ga K "is_integers")) := glo_ok T.kin T.glob (T.says.d.fact 10 (f := .glo "is_integers") rfl)
theorem g_shares_of (T : Wk h0 K mg base) : mg "shares_of" = some (.ref (ga K "shares_of")) := glo_ok T.kin T.glob (T.says.d.fact 11 (f := .glo "shares_of") rfl)
theorem g_characters_breach (T : Wk h0 K mg base) : mg "characters_breach" = some (.ref (ga K "characters_breach")) := glo_ok T.kin T.glob (T.says.d.fact 12 (f := .glo "characters_breach") rfl)
theorem g_need_integers (T : Wk h0 K mg base) : mg "need_integers" = some (.ref (ga K "need_integers")) := glo_ok T.kin T.glob (T.says.d.fact 13 (f := .glo "need_integers") rfl)
theorem g_settled_character (T : Wk h0 K mg base) : mg "settled_character" = some (.ref (ga K "settled_character")) := glo_ok T.kin T.glob (T.says.d.fact 14 (f := .glo "settled_character") rfl)
theorem g_settle_character (T : Wk h0 K mg base) : mg "settle_character" = some (.ref (ga K "settle_character")) := glo_ok T.kin T.glob (T.says.d.fact 15 (f := .glo "settle_character") rfl)
theorem g_need_character (T : Wk h0 K mg base) : mg "need_character" = some (.ref (ga K "need_character")) := glo_ok T.kin T.glob (T.says.d.fact 16 (f := .glo "need_character") rfl)
theorem g_cable_of (T : Wk h0 K mg base) : mg "cable_of" = some (.ref (ga K "cable_of")) := glo_ok T.kin T.glob (T.says.d.fact 17 (f := .glo "cable_of") rfl)
theorem g_generators_of (T : Wk h0 K mg base) : mg "generators_of" = some (.ref (ga K "generators_of")) := glo_ok T.kin T.glob (T.says.d.fact 18 (f := .glo "generators_of") rfl)
theorem g_conductor_of (T : Wk h0 K mg base) : mg "conductor_of" = some (.ref (ga K "conductor_of")) := glo_ok T.kin T.glob (T.says.d.fact 19 (f := .glo "conductor_of") rfl)
theorem g_times_of (T : Wk h0 K mg base) : mg "times_of" = some (.ref (ga K "times_of")) := glo_ok T.kin T.glob (T.says.d.fact 20 (f := .glo "times_of") rfl)
theorem g_times_factor (T : Wk h0 K mg base) : mg "times_factor" = some (.ref (ga K "times_factor")) := glo_ok T.kin T.glob (T.says.d.fact 21 (f := .glo "times_factor") rfl)
theorem g_over_factor (T : Wk h0 K mg base) : mg "over_factor" = some (.ref (ga K "over_factor")) := glo_ok T.kin T.glob (T.says.d.fact 22 (f := .glo "over_factor") rfl)
theorem g_product_of (T : Wk h0 K mg base) : mg "product_of" = some (.ref (ga K "product_of")) := glo_ok T.kin T.glob (T.says.d.fact 23 (f := .glo "product_of") rfl)
theorem g_knot_factors (T : Wk h0 K mg base) : mg "knot_factors" = some (.ref (ga K "knot_factors")) := glo_ok T.kin T.glob (T.says.d.fact 24 (f := .glo "knot_factors") rfl)
theorem g_knot_poly (T : Wk h0 K mg base) : mg "knot_poly" = some (.ref (ga K "knot_poly")) := glo_ok T.kin T.glob (T.says.d.fact 25 (f := .glo "knot_poly") rfl)
theorem g_orders_poly (T : Wk h0 K mg base) : mg "orders_poly" = some (.ref (ga K "orders_poly")) := glo_ok T.kin T.glob (T.says.d.fact 26 (f := .glo "orders_poly") rfl)
theorem g_law_pen (T : Wk h0 K mg base) : mg "_law_pen" = some (.ref (ga K "_law_pen")) := glo_ok T.kin T.glob (T.says.d.fact 27 (f := .glo "_law_pen") rfl)
theorem g_law_draw (T : Wk h0 K mg base) : mg "_law_draw" = some (.ref (ga K "_law_draw")) := glo_ok T.kin T.glob (T.says.d.fact 28 (f := .glo "_law_draw") rfl)
theorem g_law_pick (T : Wk h0 K mg base) : mg "_law_pick" = some (.ref (ga K "_law_pick")) := glo_ok T.kin T.glob (T.says.d.fact 29 (f := .glo "_law_pick") rfl)
theorem g_law_listed (T : Wk h0 K mg base) : mg "_law_listed" = some (.ref (ga K "_law_listed")) := glo_ok T.kin T.glob (T.says.d.fact 30 (f := .glo "_law_listed") rfl)
theorem g_law_g_caught (T : Wk h0 K mg base) : mg "_law_g_caught" = some (.ref (ga K "_law_g_caught")) := glo_ok T.kin T.glob (T.says.d.fact 31 (f := .glo "_law_g_caught") rfl)
theorem g_law_g_gcd (T : Wk h0 K mg base) : mg "_law_g_gcd" = some (.ref (ga K "_law_g_gcd")) := glo_ok T.kin T.glob (T.says.d.fact 32 (f := .glo "_law_g_gcd") rfl)
theorem g_law_g_shares (T : Wk h0 K mg base) : mg "_law_g_shares" = some (.ref (ga K "_law_g_shares")) := glo_ok T.kin T.glob (T.says.d.fact 33 (f := .glo "_law_g_shares") rfl)
theorem g_law_g_conductor (T : Wk h0 K mg base) : mg "_law_g_conductor" = some (.ref (ga K "_law_g_conductor")) := glo_ok T.kin T.glob (T.says.d.fact 34 (f := .glo "_law_g_conductor") rfl)
theorem g_law_g_rows (T : Wk h0 K mg base) : mg "_law_g_rows" = some (.ref (ga K "_law_g_rows")) := glo_ok T.kin T.glob (T.says.d.fact 35 (f := .glo "_law_g_rows") rfl)
theorem g_law_t_times (T : Wk h0 K mg base) : mg "_law_t_times" = some (.ref (ga K "_law_t_times")) := glo_ok T.kin T.glob (T.says.d.fact 36 (f := .glo "_law_t_times") rfl)
theorem g_law_t_is (T : Wk h0 K mg base) : mg "_law_t_is" = some (.ref (ga K "_law_t_is")) := glo_ok T.kin T.glob (T.says.d.fact 37 (f := .glo "_law_t_is") rfl)
theorem g_law_t_cable (T : Wk h0 K mg base) : mg "_law_t_cable" = some (.ref (ga K "_law_t_cable")) := glo_ok T.kin T.glob (T.says.d.fact 38 (f := .glo "_law_t_cable") rfl)
theorem g_law_t_knot (T : Wk h0 K mg base) : mg "_law_t_knot" = some (.ref (ga K "_law_t_knot")) := glo_ok T.kin T.glob (T.says.d.fact 39 (f := .glo "_law_t_knot") rfl)
theorem g_law_generators (T : Wk h0 K mg base) : mg "_law_generators" = some (.ref (ga K "_law_generators")) := glo_ok T.kin T.glob (T.says.d.fact 40 (f := .glo "_law_generators") rfl)
theorem g_law_orders (T : Wk h0 K mg base) : mg "_law_orders" = some (.ref (ga K "_law_orders")) := glo_ok T.kin T.glob (T.says.d.fact 41 (f := .glo "_law_orders") rfl)
theorem g_law (T : Wk h0 K mg base) : mg "law" = some (.ref (ga K "law")) := glo_ok T.kin T.glob (T.says.d.fact 42 (f := .glo "law") rfl)
theorem g_Ratio (T : Wk h0 K mg base) : mg "Ratio" = some (.ref (ga K "Ratio")) := glo_ok T.kin T.glob (T.says.d.fact 43 (f := .glo "Ratio") rfl)
theorem c_Ratio (T : Wk h0 K mg base) : Cls K (ga K "Ratio") := cls_ok (T.says.d.fact 44 (f := .cls "Ratio") rfl)
theorem k_Ratio (T : Wk h0 K mg base) : Mk K (ga K "Ratio") (ma K (ga K "Ratio") "__init__") := mkr_ok (T.says.d.fact 45 (f := .mkr "Ratio") rfl)
theorem me_Ratio_eq (T : Wk h0 K mg base) : Meth K (ga K "Ratio") "__eq__" (ma K (ga K "Ratio") "__eq__") := meth_ok (T.says.d.fact 46 (f := .meth "Ratio" "__eq__") rfl)
theorem me_Ratio_add (T : Wk h0 K mg base) : Meth K (ga K "Ratio") "__add__" (ma K (ga K "Ratio") "__add__") := meth_ok (T.says.d.fact 47 (f := .meth "Ratio" "__add__") rfl)
theorem me_Ratio_mul (T : Wk h0 K mg base) : Meth K (ga K "Ratio") "__mul__" (ma K (ga K "Ratio") "__mul__") := meth_ok (T.says.d.fact 48 (f := .meth "Ratio" "__mul__") rfl)
theorem n_Ratio_top (T : Wk h0 K mg base) : NoAttr K (ga K "Ratio") "top" := noat_ok (T.says.d.fact 49 (f := .noat "Ratio" "top") rfl)
theorem n_Ratio_bottom (T : Wk h0 K mg base) : NoAttr K (ga K "Ratio") "bottom" := noat_ok (T.says.d.fact 50 (f := .noat "Ratio" "bottom") rfl)
theorem n_Ratio_sign (T : Wk h0 K mg base) : NoAttr K (ga K "Ratio") "sign" := noat_ok (T.says.d.fact 51 (f := .noat "Ratio" "sign") rfl)
theorem n_Ratio_whole (T : Wk h0 K mg base) : NoAttr K (ga K "Ratio") "whole" := noat_ok (T.says.d.fact 52 (f := .noat "Ratio" "whole") rfl)
theorem g_Poly (T : Wk h0 K mg base) : mg "Poly" = some (.ref (ga K "Poly")) := glo_ok T.kin T.glob (T.says.d.fact 53 (f := .glo "Poly") rfl)
theorem c_Poly (T : Wk h0 K mg base) : Cls K (ga K "Poly") := cls_ok (T.says.d.fact 54 (f := .cls "Poly") rfl)
theorem k_Poly (T : Wk h0 K mg base) : Mk K (ga K "Poly") (ma K (ga K "Poly") "__init__") := mkr_ok (T.says.d.fact 55 (f := .mkr "Poly") rfl)
theorem me_Poly_eq (T : Wk h0 K mg base) : Meth K (ga K "Poly") "__eq__" (ma K (ga K "Poly") "__eq__") := meth_ok (T.says.d.fact 56 (f := .meth "Poly" "__eq__") rfl)
theorem me_Poly_at (T : Wk h0 K mg base) : Meth K (ga K "Poly") "at" (ma K (ga K "Poly") "at") := meth_ok (T.says.d.fact 57 (f := .meth "Poly" "at") rfl)
theorem n_Poly_numbers (T : Wk h0 K mg base) : NoAttr K (ga K "Poly") "numbers" := noat_ok (T.says.d.fact 58 (f := .noat "Poly" "numbers") rfl)
theorem n_Poly_degree (T : Wk h0 K mg base) : NoAttr K (ga K "Poly") "degree" := noat_ok (T.says.d.fact 59 (f := .noat "Poly" "degree") rfl)
theorem n_Poly_lead (T : Wk h0 K mg base) : NoAttr K (ga K "Poly") "lead" := noat_ok (T.says.d.fact 60 (f := .noat "Poly" "lead") rfl)
theorem g_Characters (T : Wk h0 K mg base) : mg "Characters" = some (.ref (ga K "Characters")) := glo_ok T.kin T.glob (T.says.d.fact 61 (f := .glo "Characters") rfl)
theorem c_Characters (T : Wk h0 K mg base) : Cls K (ga K "Characters") := cls_ok (T.says.d.fact 62 (f := .cls "Characters") rfl)
theorem k_Characters (T : Wk h0 K mg base) : Mk K (ga K "Characters") (ma K (ga K "Characters") "__init__") := mkr_ok (T.says.d.fact 63 (f := .mkr "Characters") rfl)
theorem me_Characters_eq (T : Wk h0 K mg base) : Meth K (ga K "Characters") "__eq__" (ma K (ga K "Characters") "__eq__") := meth_ok (T.says.d.fact 64 (f := .meth "Characters" "__eq__") rfl)
theorem n_Characters_shares (T : Wk h0 K mg base) : NoAttr K (ga K "Characters") "shares" := noat_ok (T.says.d.fact 65 (f := .noat "Characters" "shares") rfl)
theorem g_NoCharacters (T : Wk h0 K mg base) : mg "NoCharacters" = some (.ref (ga K "NoCharacters")) := glo_ok T.kin T.glob (T.says.d.fact 66 (f := .glo "NoCharacters") rfl)
theorem c_NoCharacters (T : Wk h0 K mg base) : Cls K (ga K "NoCharacters") := cls_ok (T.says.d.fact 67 (f := .cls "NoCharacters") rfl)
theorem k_NoCharacters (T : Wk h0 K mg base) : Mk K (ga K "NoCharacters") (ma K (ga K "NoCharacters") "__init__") := mkr_ok (T.says.d.fact 68 (f := .mkr "NoCharacters") rfl)
theorem me_NoCharacters_eq (T : Wk h0 K mg base) : Meth K (ga K "NoCharacters") "__eq__" (ma K (ga K "NoCharacters") "__eq__") := meth_ok (T.says.d.fact 69 (f := .meth "NoCharacters" "__eq__") rfl)
theorem n_NoCharacters_why (T : Wk h0 K mg base) : NoAttr K (ga K "NoCharacters") "why" := noat_ok (T.says.d.fact 70 (f := .noat "NoCharacters" "why") rfl)
theorem n_NoCharacters_index (T : Wk h0 K mg base) : NoAttr K (ga K "NoCharacters") "index" := noat_ok (T.says.d.fact 71 (f := .noat "NoCharacters" "index") rfl)
theorem i_MOST_FIRST (T : Wk h0 K mg base) : ∃ u, mg "MOST_FIRST" = some u ∧ RelV (.int 60) u := let ⟨t, h⟩ := int_ok T.kin T.glob (T.says.d.fact 72 (f := .int "MOST_FIRST" 60) rfl); ⟨_, h, t, rfl⟩
theorem i_MOST_ITEM (T : Wk h0 K mg base) : ∃ u, mg "MOST_ITEM" = some u ∧ RelV (.int 400) u := let ⟨t, h⟩ := int_ok T.kin T.glob (T.says.d.fact 73 (f := .int "MOST_ITEM" 400) rfl); ⟨_, h, t, rfl⟩
theorem i_MOST_LENGTH (T : Wk h0 K mg base) : ∃ u, mg "MOST_LENGTH" = some u ∧ RelV (.int 5) u := let ⟨t, h⟩ := int_ok T.kin T.glob (T.says.d.fact 74 (f := .int "MOST_LENGTH" 5) rfl); ⟨_, h, t, rfl⟩
theorem m_len (T : Wk h0 K mg base) : mg "len" = none := free_ok T.kin T.glob (T.says.d.fact 75 (f := .free "len") rfl)
theorem m_all (T : Wk h0 K mg base) : mg "all" = none := free_ok T.kin T.glob (T.says.d.fact 76 (f := .free "all") rfl)
theorem m_any (T : Wk h0 K mg base) : mg "any" = none := free_ok T.kin T.glob (T.says.d.fact 77 (f := .free "any") rfl)
theorem m_isinstance (T : Wk h0 K mg base) : mg "isinstance" = none := free_ok T.kin T.glob (T.says.d.fact 78 (f := .free "isinstance") rfl)
theorem m_tuple (T : Wk h0 K mg base) : mg "tuple" = none := free_ok T.kin T.glob (T.says.d.fact 79 (f := .free "tuple") rfl)
theorem m_list (T : Wk h0 K mg base) : mg "list" = none := free_ok T.kin T.glob (T.says.d.fact 80 (f := .free "list") rfl)
theorem m_range (T : Wk h0 K mg base) : mg "range" = none := free_ok T.kin T.glob (T.says.d.fact 81 (f := .free "range") rfl)
theorem m_enumerate (T : Wk h0 K mg base) : mg "enumerate" = none := free_ok T.kin T.glob (T.says.d.fact 82 (f := .free "enumerate") rfl)
theorem m_zip (T : Wk h0 K mg base) : mg "zip" = none := free_ok T.kin T.glob (T.says.d.fact 83 (f := .free "zip") rfl)
theorem m_sorted (T : Wk h0 K mg base) : mg "sorted" = none := free_ok T.kin T.glob (T.says.d.fact 84 (f := .free "sorted") rfl)
theorem m_set (T : Wk h0 K mg base) : mg "set" = none := free_ok T.kin T.glob (T.says.d.fact 85 (f := .free "set") rfl)
theorem m_min (T : Wk h0 K mg base) : mg "min" = none := free_ok T.kin T.glob (T.says.d.fact 86 (f := .free "min") rfl)
theorem m_max (T : Wk h0 K mg base) : mg "max" = none := free_ok T.kin T.glob (T.says.d.fact 87 (f := .free "max") rfl)
theorem m_sum (T : Wk h0 K mg base) : mg "sum" = none := free_ok T.kin T.glob (T.says.d.fact 88 (f := .free "sum") rfl)
theorem m_abs (T : Wk h0 K mg base) : mg "abs" = none := free_ok T.kin T.glob (T.says.d.fact 89 (f := .free "abs") rfl)
theorem m_int (T : Wk h0 K mg base) : mg "int" = none := free_ok T.kin T.glob (T.says.d.fact 90 (f := .free "int") rfl)
theorem m_str (T : Wk h0 K mg base) : mg "str" = none := free_ok T.kin T.glob (T.says.d.fact 91 (f := .free "str") rfl)
theorem m_bool (T : Wk h0 K mg base) : mg "bool" = none := free_ok T.kin T.glob (T.says.d.fact 92 (f := .free "bool") rfl)
theorem m_repr (T : Wk h0 K mg base) : mg "repr" = none := free_ok T.kin T.glob (T.says.d.fact 93 (f := .free "repr") rfl)
theorem m_super (T : Wk h0 K mg base) : mg "super" = none := free_ok T.kin T.glob (T.says.d.fact 94 (f := .free "super") rfl)
theorem m_ValueError (T : Wk h0 K mg base) : mg "ValueError" = none := free_ok T.kin T.glob (T.says.d.fact 95 (f := .free "ValueError") rfl)
theorem m_dict (T : Wk h0 K mg base) : mg "dict" = none := free_ok T.kin T.glob (T.says.d.fact 96 (f := .free "dict") rfl)
theorem g_TouchError (T : Wk h0 K mg base) : mg "TouchError" = some (.ref (ga K "TouchError")) := glo_ok T.kin T.glob (T.says.d.fact 97 (f := .glo "TouchError") rfl)
theorem g_BadNumber (T : Wk h0 K mg base) : mg "BadNumber" = some (.ref (ga K "BadNumber")) := glo_ok T.kin T.glob (T.says.d.fact 98 (f := .glo "BadNumber") rfl)
theorem g_BadRow (T : Wk h0 K mg base) : mg "BadRow" = some (.ref (ga K "BadRow")) := glo_ok T.kin T.glob (T.says.d.fact 99 (f := .glo "BadRow") rfl)
theorem g_BadItem (T : Wk h0 K mg base) : mg "BadItem" = some (.ref (ga K "BadItem")) := glo_ok T.kin T.glob (T.says.d.fact 100 (f := .glo "BadItem") rfl)
theorem g_TooMany (T : Wk h0 K mg base) : mg "TooMany" = some (.ref (ga K "TooMany")) := glo_ok T.kin T.glob (T.says.d.fact 101 (f := .glo "TooMany") rfl)
theorem g_BadCurve (T : Wk h0 K mg base) : mg "BadCurve" = some (.ref (ga K "BadCurve")) := glo_ok T.kin T.glob (T.says.d.fact 102 (f := .glo "BadCurve") rfl)
theorem g_SharesBranch (T : Wk h0 K mg base) : mg "SharesBranch" = some (.ref (ga K "SharesBranch")) := glo_ok T.kin T.glob (T.says.d.fact 103 (f := .glo "SharesBranch") rfl)
theorem g_NotBranched (T : Wk h0 K mg base) : mg "NotBranched" = some (.ref (ga K "NotBranched")) := glo_ok T.kin T.glob (T.says.d.fact 104 (f := .glo "NotBranched") rfl)
theorem g_BadCharacters (T : Wk h0 K mg base) : mg "BadCharacters" = some (.ref (ga K "BadCharacters")) := glo_ok T.kin T.glob (T.says.d.fact 105 (f := .glo "BadCharacters") rfl)
theorem g_NotOf (T : Wk h0 K mg base) : mg "NotOf" = some (.ref (ga K "NotOf")) := glo_ok T.kin T.glob (T.says.d.fact 106 (f := .glo "NotOf") rfl)
theorem g_NotStraight (T : Wk h0 K mg base) : mg "NotStraight" = some (.ref (ga K "NotStraight")) := glo_ok T.kin T.glob (T.says.d.fact 107 (f := .glo "NotStraight") rfl)
theorem g_BadType (T : Wk h0 K mg base) : mg "BadType" = some (.ref (ga K "BadType")) := glo_ok T.kin T.glob (T.says.d.fact 108 (f := .glo "BadType") rfl)
theorem f_is_integer (T : Wk h0 K mg base) : ∃ fd, FunD K "is_integer" "is_integer" (defArgs s_is_integer) (defBody s_is_integer) (defScope s_is_integer) [] [] (ga K "is_integer") fd := T.says.d.def_ 0 (d := d_is_integer) rfl
theorem f_is_count (T : Wk h0 K mg base) : ∃ fd, FunD K "is_count" "is_count" (defArgs s_is_count) (defBody s_is_count) (defScope s_is_count) [.non] [] (ga K "is_count") fd := T.says.d.def_ 1 (d := d_is_count) rfl
theorem f_is_row (T : Wk h0 K mg base) : ∃ fd, FunD K "is_row" "is_row" (defArgs s_is_row) (defBody s_is_row) (defScope s_is_row) [] [] (ga K "is_row") fd := T.says.d.def_ 2 (d := d_is_row) rfl
theorem f_kept (T : Wk h0 K mg base) : ∃ fd, FunD K "kept" "kept" (defArgs s_kept) (defBody s_kept) (defScope s_kept) [] [] (ga K "kept") fd := T.says.d.def_ 3 (d := d_kept) rfl
theorem f_Ratio_init (T : Wk h0 K mg base) : ∃ fd, FunD K "__init__" "Ratio.__init__" (defArgs s_Ratio_init) (defBody s_Ratio_init) (defScope s_Ratio_init) [.int 1] [] (ma K (ga K "Ratio") "__init__") fd := T.says.d.def_ 4 (d := d_Ratio_init) rfl
theorem f_Ratio_eq (T : Wk h0 K mg base) : ∃ fd, FunD K "__eq__" "Ratio.__eq__" (defArgs s_Ratio_eq) (defBody s_Ratio_eq) (defScope s_Ratio_eq) [] [] (ma K (ga K "Ratio") "__eq__") fd := T.says.d.def_ 5 (d := d_Ratio_eq) rfl
theorem f_Ratio_add (T : Wk h0 K mg base) : ∃ fd, FunD K "__add__" "Ratio.__add__" (defArgs s_Ratio_add) (defBody s_Ratio_add) (defScope s_Ratio_add) [] [] (ma K (ga K "Ratio") "__add__") fd := T.says.d.def_ 6 (d := d_Ratio_add) rfl
theorem f_Ratio_mul (T : Wk h0 K mg base) : ∃ fd, FunD K "__mul__" "Ratio.__mul__" (defArgs s_Ratio_mul) (defBody s_Ratio_mul) (defScope s_Ratio_mul) [] [] (ma K (ga K "Ratio") "__mul__") fd := T.says.d.def_ 7 (d := d_Ratio_mul) rfl
theorem f_is_number (T : Wk h0 K mg base) : ∃ fd, FunD K "is_number" "is_number" (defArgs s_is_number) (defBody s_is_number) (defScope s_is_number) [] [] (ga K "is_number") fd := T.says.d.def_ 8 (d := d_is_number) rfl
theorem f_plain_ratio (T : Wk h0 K mg base) : ∃ fd, FunD K "plain_ratio" "plain_ratio" (defArgs s_plain_ratio) (defBody s_plain_ratio) (defScope s_plain_ratio) [] [] (ga K "plain_ratio") fd := T.says.d.def_ 9 (d := d_plain_ratio) rfl
theorem f_ratio_of (T : Wk h0 K mg base) : ∃ fd, FunD K "ratio_of" "ratio_of" (defArgs s_ratio_of) (defBody s_ratio_of) (defScope s_ratio_of) [] [] (ga K "ratio_of") fd := T.says.d.def_ 10 (d := d_ratio_of) rfl
theorem f_need_numbers (T : Wk h0 K mg base) : ∃ fd, FunD K "need_numbers" "need_numbers" (defArgs s_need_numbers) (defBody s_need_numbers) (defScope s_need_numbers) [] [] (ga K "need_numbers") fd := T.says.d.def_ 11 (d := d_need_numbers) rfl
theorem f_without_zeros (T : Wk h0 K mg base) : ∃ fd, FunD K "without_zeros" "without_zeros" (defArgs s_without_zeros) (defBody s_without_zeros) (defScope s_without_zeros) [] [] (ga K "without_zeros") fd := T.says.d.def_ 12 (d := d_without_zeros) rfl
theorem f_Poly_init (T : Wk h0 K mg base) : ∃ fd, FunD K "__init__" "Poly.__init__" (defArgs s_Poly_init) (defBody s_Poly_init) (defScope s_Poly_init) [.ref (dflAt ("Poly", some "__init__") 0 K)] [] (ma K (ga K "Poly") "__init__") fd := T.says.d.def_ 13 (d := d_Poly_init) rfl
theorem f_Poly_eq (T : Wk h0 K mg base) : ∃ fd, FunD K "__eq__" "Poly.__eq__" (defArgs s_Poly_eq) (defBody s_Poly_eq) (defScope s_Poly_eq) [] [] (ma K (ga K "Poly") "__eq__") fd := T.says.d.def_ 14 (d := d_Poly_eq) rfl
theorem f_Poly_at (T : Wk h0 K mg base) : ∃ fd, FunD K "at" "Poly.at" (defArgs s_Poly_at) (defBody s_Poly_at) (defScope s_Poly_at) [] [] (ma K (ga K "Poly") "at") fd := T.says.d.def_ 15 (d := d_Poly_at) rfl
theorem f_poly_value_at (T : Wk h0 K mg base) : ∃ fd, FunD K "poly_value_at" "poly_value_at" (defArgs s_poly_value_at) (defBody s_poly_value_at) (defScope s_poly_value_at) [] [] (ga K "poly_value_at") fd := T.says.d.def_ 16 (d := d_poly_value_at) rfl
theorem f_Characters_init (T : Wk h0 K mg base) : ∃ fd, FunD K "__init__" "Characters.__init__" (defArgs s_Characters_init) (defBody s_Characters_init) (defScope s_Characters_init) [] [] (ma K (ga K "Characters") "__init__") fd := T.says.d.def_ 17 (d := d_Characters_init) rfl
theorem f_Characters_eq (T : Wk h0 K mg base) : ∃ fd, FunD K "__eq__" "Characters.__eq__" (defArgs s_Characters_eq) (defBody s_Characters_eq) (defScope s_Characters_eq) [] [] (ma K (ga K "Characters") "__eq__") fd := T.says.d.def_ 18 (d := d_Characters_eq) rfl
theorem f_NoCharacters_init (T : Wk h0 K mg base) : ∃ fd, FunD K "__init__" "NoCharacters.__init__" (defArgs s_NoCharacters_init) (defBody s_NoCharacters_init) (defScope s_NoCharacters_init) [] [] (ma K (ga K "NoCharacters") "__init__") fd := T.says.d.def_ 19 (d := d_NoCharacters_init) rfl
theorem f_NoCharacters_eq (T : Wk h0 K mg base) : ∃ fd, FunD K "__eq__" "NoCharacters.__eq__" (defArgs s_NoCharacters_eq) (defBody s_NoCharacters_eq) (defScope s_NoCharacters_eq) [] [] (ma K (ga K "NoCharacters") "__eq__") fd := T.says.d.def_ 20 (d := d_NoCharacters_eq) rfl
theorem f_is_integers (T : Wk h0 K mg base) : ∃ fd, FunD K "is_integers" "is_integers" (defArgs s_is_integers) (defBody s_is_integers) (defScope s_is_integers) [] [] (ga K "is_integers") fd := T.says.d.def_ 21 (d := d_is_integers) rfl
theorem f_shares_of (T : Wk h0 K mg base) : ∃ fd, FunD K "shares_of" "shares_of" (defArgs s_shares_of) (defBody s_shares_of) (defScope s_shares_of) [] [] (ga K "shares_of") fd := T.says.d.def_ 22 (d := d_shares_of) rfl
theorem f_characters_breach (T : Wk h0 K mg base) : ∃ fd, FunD K "characters_breach" "characters_breach" (defArgs s_characters_breach) (defBody s_characters_breach) (defScope s_characters_breach) [] [] (ga K "characters_breach") fd := T.says.d.def_ 23 (d := d_characters_breach) rfl
theorem f_need_integers (T : Wk h0 K mg base) : ∃ fd, FunD K "need_integers" "need_integers" (defArgs s_need_integers) (defBody s_need_integers) (defScope s_need_integers) [] [] (ga K "need_integers") fd := T.says.d.def_ 24 (d := d_need_integers) rfl
theorem f_settled_character (T : Wk h0 K mg base) : ∃ fd, FunD K "settled_character" "settled_character" (defArgs s_settled_character) (defBody s_settled_character) (defScope s_settled_character) [] [] (ga K "settled_character") fd := T.says.d.def_ 25 (d := d_settled_character) rfl
theorem f_settle_character (T : Wk h0 K mg base) : ∃ fd, FunD K "settle_character" "settle_character" (defArgs s_settle_character) (defBody s_settle_character) (defScope s_settle_character) [] [] (ga K "settle_character") fd := T.says.d.def_ 26 (d := d_settle_character) rfl
theorem f_need_character (T : Wk h0 K mg base) : ∃ fd, FunD K "need_character" "need_character" (defArgs s_need_character) (defBody s_need_character) (defScope s_need_character) [] [] (ga K "need_character") fd := T.says.d.def_ 27 (d := d_need_character) rfl
theorem f_cable_of (T : Wk h0 K mg base) : ∃ fd, FunD K "cable_of" "cable_of" (defArgs s_cable_of) (defBody s_cable_of) (defScope s_cable_of) [] [] (ga K "cable_of") fd := T.says.d.def_ 28 (d := d_cable_of) rfl
theorem f_generators_of (T : Wk h0 K mg base) : ∃ fd, FunD K "generators_of" "generators_of" (defArgs s_generators_of) (defBody s_generators_of) (defScope s_generators_of) [] [] (ga K "generators_of") fd := T.says.d.def_ 29 (d := d_generators_of) rfl
theorem f_conductor_of (T : Wk h0 K mg base) : ∃ fd, FunD K "conductor_of" "conductor_of" (defArgs s_conductor_of) (defBody s_conductor_of) (defScope s_conductor_of) [] [] (ga K "conductor_of") fd := T.says.d.def_ 30 (d := d_conductor_of) rfl
theorem f_times_of (T : Wk h0 K mg base) : ∃ fd, FunD K "times_of" "times_of" (defArgs s_times_of) (defBody s_times_of) (defScope s_times_of) [] [] (ga K "times_of") fd := T.says.d.def_ 31 (d := d_times_of) rfl
theorem f_times_factor (T : Wk h0 K mg base) : ∃ fd, FunD K "times_factor" "times_factor" (defArgs s_times_factor) (defBody s_times_factor) (defScope s_times_factor) [] [] (ga K "times_factor") fd := T.says.d.def_ 32 (d := d_times_factor) rfl
theorem f_over_factor (T : Wk h0 K mg base) : ∃ fd, FunD K "over_factor" "over_factor" (defArgs s_over_factor) (defBody s_over_factor) (defScope s_over_factor) [] [] (ga K "over_factor") fd := T.says.d.def_ 33 (d := d_over_factor) rfl
theorem f_product_of (T : Wk h0 K mg base) : ∃ fd, FunD K "product_of" "product_of" (defArgs s_product_of) (defBody s_product_of) (defScope s_product_of) [] [] (ga K "product_of") fd := T.says.d.def_ 34 (d := d_product_of) rfl
theorem f_knot_factors (T : Wk h0 K mg base) : ∃ fd, FunD K "knot_factors" "knot_factors" (defArgs s_knot_factors) (defBody s_knot_factors) (defScope s_knot_factors) [] [] (ga K "knot_factors") fd := T.says.d.def_ 35 (d := d_knot_factors) rfl
theorem f_knot_poly (T : Wk h0 K mg base) : ∃ fd, FunD K "knot_poly" "knot_poly" (defArgs s_knot_poly) (defBody s_knot_poly) (defScope s_knot_poly) [] [] (ga K "knot_poly") fd := T.says.d.def_ 36 (d := d_knot_poly) rfl
theorem f_orders_poly (T : Wk h0 K mg base) : ∃ fd, FunD K "orders_poly" "orders_poly" (defArgs s_orders_poly) (defBody s_orders_poly) (defScope s_orders_poly) [] [] (ga K "orders_poly") fd := T.says.d.def_ 37 (d := d_orders_poly) rfl
theorem f_law_pen (T : Wk h0 K mg base) : ∃ fd, FunD K "_law_pen" "_law_pen" (defArgs s_law_pen) (defBody s_law_pen) (defScope s_law_pen) [] [] (ga K "_law_pen") fd := T.says.d.def_ 38 (d := d_law_pen) rfl
theorem f_law_draw (T : Wk h0 K mg base) : ∃ fd, FunD K "_law_draw" "_law_draw" (defArgs s_law_draw) (defBody s_law_draw) (defScope s_law_draw) [] [] (ga K "_law_draw") fd := T.says.d.def_ 39 (d := d_law_draw) rfl
theorem f_law_pick (T : Wk h0 K mg base) : ∃ fd, FunD K "_law_pick" "_law_pick" (defArgs s_law_pick) (defBody s_law_pick) (defScope s_law_pick) [] [] (ga K "_law_pick") fd := T.says.d.def_ 40 (d := d_law_pick) rfl
theorem f_law_listed (T : Wk h0 K mg base) : ∃ fd, FunD K "_law_listed" "_law_listed" (defArgs s_law_listed) (defBody s_law_listed) (defScope s_law_listed) [] [] (ga K "_law_listed") fd := T.says.d.def_ 41 (d := d_law_listed) rfl
theorem f_law_g_caught (T : Wk h0 K mg base) : ∃ fd, FunD K "_law_g_caught" "_law_g_caught" (defArgs s_law_g_caught) (defBody s_law_g_caught) (defScope s_law_g_caught) [] [] (ga K "_law_g_caught") fd := T.says.d.def_ 42 (d := d_law_g_caught) rfl
theorem f_law_g_gcd (T : Wk h0 K mg base) : ∃ fd, FunD K "_law_g_gcd" "_law_g_gcd" (defArgs s_law_g_gcd) (defBody s_law_g_gcd) (defScope s_law_g_gcd) [] [] (ga K "_law_g_gcd") fd := T.says.d.def_ 43 (d := d_law_g_gcd) rfl
theorem f_law_g_shares (T : Wk h0 K mg base) : ∃ fd, FunD K "_law_g_shares" "_law_g_shares" (defArgs s_law_g_shares) (defBody s_law_g_shares) (defScope s_law_g_shares) [] [] (ga K "_law_g_shares") fd := T.says.d.def_ 44 (d := d_law_g_shares) rfl
theorem f_law_g_conductor (T : Wk h0 K mg base) : ∃ fd, FunD K "_law_g_conductor" "_law_g_conductor" (defArgs s_law_g_conductor) (defBody s_law_g_conductor) (defScope s_law_g_conductor) [] [] (ga K "_law_g_conductor") fd := T.says.d.def_ 45 (d := d_law_g_conductor) rfl
theorem f_law_g_rows (T : Wk h0 K mg base) : ∃ fd, FunD K "_law_g_rows" "_law_g_rows" (defArgs s_law_g_rows) (defBody s_law_g_rows) (defScope s_law_g_rows) [] [] (ga K "_law_g_rows") fd := T.says.d.def_ 46 (d := d_law_g_rows) rfl
theorem f_law_t_times (T : Wk h0 K mg base) : ∃ fd, FunD K "_law_t_times" "_law_t_times" (defArgs s_law_t_times) (defBody s_law_t_times) (defScope s_law_t_times) [] [] (ga K "_law_t_times") fd := T.says.d.def_ 47 (d := d_law_t_times) rfl
theorem f_law_t_is (T : Wk h0 K mg base) : ∃ fd, FunD K "_law_t_is" "_law_t_is" (defArgs s_law_t_is) (defBody s_law_t_is) (defScope s_law_t_is) [] [] (ga K "_law_t_is") fd := T.says.d.def_ 48 (d := d_law_t_is) rfl
theorem f_law_t_cable (T : Wk h0 K mg base) : ∃ fd, FunD K "_law_t_cable" "_law_t_cable" (defArgs s_law_t_cable) (defBody s_law_t_cable) (defScope s_law_t_cable) [] [] (ga K "_law_t_cable") fd := T.says.d.def_ 49 (d := d_law_t_cable) rfl
theorem f_law_t_knot (T : Wk h0 K mg base) : ∃ fd, FunD K "_law_t_knot" "_law_t_knot" (defArgs s_law_t_knot) (defBody s_law_t_knot) (defScope s_law_t_knot) [] [] (ga K "_law_t_knot") fd := T.says.d.def_ 50 (d := d_law_t_knot) rfl
theorem f_law_generators (T : Wk h0 K mg base) : ∃ fd, FunD K "_law_generators" "_law_generators" (defArgs s_law_generators) (defBody s_law_generators) (defScope s_law_generators) [] [] (ga K "_law_generators") fd := T.says.d.def_ 51 (d := d_law_generators) rfl
theorem f_law_orders (T : Wk h0 K mg base) : ∃ fd, FunD K "_law_orders" "_law_orders" (defArgs s_law_orders) (defBody s_law_orders) (defScope s_law_orders) [] [] (ga K "_law_orders") fd := T.says.d.def_ 52 (d := d_law_orders) rfl
theorem f_law (T : Wk h0 K mg base) : ∃ fd, FunD K "law" "law" (defArgs s_law) (defBody s_law) (defScope s_law) [] [] (ga K "law") fd := T.says.d.def_ 53 (d := d_law) rfl
end
abbrev N_wall : List Str := ["k"]
theorem sc_wall : FnScope N_wall ["k"] (defScope s_wall) := ⟨rfl, rfl, rfl, by decide +kernel, rfl, by decide +kernel, by decide +kernel⟩
abbrev N_is_integer : List Str := ["value"]
theorem sc_is_integer : FnScope N_is_integer ["value"] (defScope s_is_integer) := ⟨rfl, rfl, rfl, by decide +kernel, rfl, by decide +kernel, by decide +kernel⟩
abbrev N_is_count : List Str := ["value", "most"]
theorem sc_is_count : FnScope N_is_count ["value", "most"] (defScope s_is_count) := ⟨rfl, rfl, rfl, by decide +kernel, rfl, by decide +kernel, by decide +kernel⟩
abbrev N_is_row : List Str := ["value"]
theorem sc_is_row : FnScope N_is_row ["value"] (defScope s_is_row) := ⟨rfl, rfl, rfl, by decide +kernel, rfl, by decide +kernel, by decide +kernel⟩
abbrev N_kept : List Str := ["value", "item"]
theorem sc_kept : FnScope N_kept ["value"] (defScope s_kept) := ⟨rfl, rfl, rfl, by decide +kernel, rfl, by decide +kernel, by decide +kernel⟩
abbrev N_power_of : List Str := ["base", "k", "result"]
theorem sc_power_of : FnScope N_power_of ["base", "k"] (defScope s_power_of) := ⟨rfl, rfl, rfl, by decide +kernel, rfl, by decide +kernel, by decide +kernel⟩
abbrev N_Ratio_init : List Str := ["self", "top", "bottom", "shared"]
theorem sc_Ratio_init : FnScope N_Ratio_init ["self", "top", "bottom"] (defScope s_Ratio_init) := ⟨rfl, rfl, rfl, by decide +kernel, rfl, by decide +kernel, by decide +kernel⟩
abbrev N_Ratio_eq : List Str := ["self", "other"]
theorem sc_Ratio_eq : FnScope N_Ratio_eq ["self", "other"] (defScope s_Ratio_eq) := ⟨rfl, rfl, rfl, by decide +kernel, rfl, by decide +kernel, by decide +kernel⟩
abbrev N_Ratio_str : List Str := ["self"]
theorem sc_Ratio_str : FnScope N_Ratio_str ["self"] (defScope s_Ratio_str) := ⟨rfl, rfl, rfl, by decide +kernel, rfl, by decide +kernel, by decide +kernel⟩
abbrev N_Ratio_neg : List Str := ["self"]
theorem sc_Ratio_neg : FnScope N_Ratio_neg ["self"] (defScope s_Ratio_neg) := ⟨rfl, rfl, rfl, by decide +kernel, rfl, by decide +kernel, by decide +kernel⟩
abbrev N_Ratio_add : List Str := ["self", "other"]
theorem sc_Ratio_add : FnScope N_Ratio_add ["self", "other"] (defScope s_Ratio_add) := ⟨rfl, rfl, rfl, by decide +kernel, rfl, by decide +kernel, by decide +kernel⟩
abbrev N_Ratio_radd : List Str := ["self", "other"]
theorem sc_Ratio_radd : FnScope N_Ratio_radd ["self", "other"] (defScope s_Ratio_radd) := ⟨rfl, rfl, rfl, by decide +kernel, rfl, by decide +kernel, by decide +kernel⟩
abbrev N_Ratio_sub : List Str := ["self", "other"]
theorem sc_Ratio_sub : FnScope N_Ratio_sub ["self", "other"] (defScope s_Ratio_sub) := ⟨rfl, rfl, rfl, by decide +kernel, rfl, by decide +kernel, by decide +kernel⟩
abbrev N_Ratio_rsub : List Str := ["self", "other"]
theorem sc_Ratio_rsub : FnScope N_Ratio_rsub ["self", "other"] (defScope s_Ratio_rsub) := ⟨rfl, rfl, rfl, by decide +kernel, rfl, by decide +kernel, by decide +kernel⟩
abbrev N_Ratio_mul : List Str := ["self", "other"]
theorem sc_Ratio_mul : FnScope N_Ratio_mul ["self", "other"] (defScope s_Ratio_mul) := ⟨rfl, rfl, rfl, by decide +kernel, rfl, by decide +kernel, by decide +kernel⟩
abbrev N_Ratio_rmul : List Str := ["self", "other"]
theorem sc_Ratio_rmul : FnScope N_Ratio_rmul ["self", "other"] (defScope s_Ratio_rmul) := ⟨rfl, rfl, rfl, by decide +kernel, rfl, by decide +kernel, by decide +kernel⟩
abbrev N_Ratio_power : List Str := ["self", "k"]
theorem sc_Ratio_power : FnScope N_Ratio_power ["self", "k"] (defScope s_Ratio_power) := ⟨rfl, rfl, rfl, by decide +kernel, rfl, by decide +kernel, by decide +kernel⟩
abbrev N_Ratio_less : List Str := ["self", "other"]
theorem sc_Ratio_less : FnScope N_Ratio_less ["self", "other"] (defScope s_Ratio_less) := ⟨rfl, rfl, rfl, by decide +kernel, rfl, by decide +kernel, by decide +kernel⟩
abbrev N_Ratio_over : List Str := ["self", "other"]
theorem sc_Ratio_over : FnScope N_Ratio_over ["self", "other"] (defScope s_Ratio_over) := ⟨rfl, rfl, rfl, by decide +kernel, rfl, by decide +kernel, by decide +kernel⟩
abbrev N_Ratio_floor : List Str := ["self"]
theorem sc_Ratio_floor : FnScope N_Ratio_floor ["self"] (defScope s_Ratio_floor) := ⟨rfl, rfl, rfl, by decide +kernel, rfl, by decide +kernel, by decide +kernel⟩
abbrev N_ratio_power : List Str := ["a", "k"]
theorem sc_ratio_power : FnScope N_ratio_power ["a", "k"] (defScope s_ratio_power) := ⟨rfl, rfl, rfl, by decide +kernel, rfl, by decide +kernel, by decide +kernel⟩
abbrev N_is_number : List Str := ["value"]
theorem sc_is_number : FnScope N_is_number ["value"] (defScope s_is_number) := ⟨rfl, rfl, rfl, by decide +kernel, rfl, by decide +kernel, by decide +kernel⟩
abbrev N_plain_ratio : List Str := ["value"]
theorem sc_plain_ratio : FnScope N_plain_ratio ["value"] (defScope s_plain_ratio) := ⟨rfl, rfl, rfl, by decide +kernel, rfl, by decide +kernel, by decide +kernel⟩
abbrev N_ratio_of : List Str := ["number"]
theorem sc_ratio_of : FnScope N_ratio_of ["number"] (defScope s_ratio_of) := ⟨rfl, rfl, rfl, by decide +kernel, rfl, by decide +kernel, by decide +kernel⟩
abbrev N_need_numbers : List Str := ["numbers", "item"]
theorem sc_need_numbers : FnScope N_need_numbers ["numbers"] (defScope s_need_numbers) := ⟨rfl, rfl, rfl, by decide +kernel, rfl, by decide +kernel, by decide +kernel⟩
abbrev N_without_zeros : List Str := ["ratios", "many"]
theorem sc_without_zeros : FnScope N_without_zeros ["ratios"] (defScope s_without_zeros) := ⟨rfl, rfl, rfl, by decide +kernel, rfl, by decide +kernel, by decide +kernel⟩
abbrev N_part_at : List Str := ["ratios", "k"]
theorem sc_part_at : FnScope N_part_at ["ratios", "k"] (defScope s_part_at) := ⟨rfl, rfl, rfl, by decide +kernel, rfl, by decide +kernel, by decide +kernel⟩
abbrev N_numbers_sum : List Str := ["one", "other", "k"]
theorem sc_numbers_sum : FnScope N_numbers_sum ["one", "other"] (defScope s_numbers_sum) := ⟨rfl, rfl, rfl, by decide +kernel, rfl, by decide +kernel, by decide +kernel⟩
abbrev N_numbers_less : List Str := ["one", "other", "k"]
theorem sc_numbers_less : FnScope N_numbers_less ["one", "other"] (defScope s_numbers_less) := ⟨rfl, rfl, rfl, by decide +kernel, rfl, by decide +kernel, by decide +kernel⟩
abbrev N_numbers_times : List Str := ["one", "other", "many", "k", "i"]
theorem sc_numbers_times : FnScope N_numbers_times ["one", "other"] (defScope s_numbers_times) := ⟨rfl, rfl, rfl, by decide +kernel, rfl, by decide +kernel, by decide +kernel⟩
abbrev N_Poly_init : List Str := ["self", "numbers"]
theorem sc_Poly_init : FnScope N_Poly_init ["self", "numbers"] (defScope s_Poly_init) := ⟨rfl, rfl, rfl, by decide +kernel, rfl, by decide +kernel, by decide +kernel⟩
abbrev N_Poly_eq : List Str := ["self", "other"]
theorem sc_Poly_eq : FnScope N_Poly_eq ["self", "other"] (defScope s_Poly_eq) := ⟨rfl, rfl, rfl, by decide +kernel, rfl, by decide +kernel, by decide +kernel⟩
abbrev N_Poly_neg : List Str := ["self", "item"]
theorem sc_Poly_neg : FnScope N_Poly_neg ["self"] (defScope s_Poly_neg) := ⟨rfl, rfl, rfl, by decide +kernel, rfl, by decide +kernel, by decide +kernel⟩
abbrev N_Poly_add : List Str := ["self", "other"]
theorem sc_Poly_add : FnScope N_Poly_add ["self", "other"] (defScope s_Poly_add) := ⟨rfl, rfl, rfl, by decide +kernel, rfl, by decide +kernel, by decide +kernel⟩
abbrev N_Poly_radd : List Str := ["self", "other"]
theorem sc_Poly_radd : FnScope N_Poly_radd ["self", "other"] (defScope s_Poly_radd) := ⟨rfl, rfl, rfl, by decide +kernel, rfl, by decide +kernel, by decide +kernel⟩
abbrev N_Poly_sub : List Str := ["self", "other"]
theorem sc_Poly_sub : FnScope N_Poly_sub ["self", "other"] (defScope s_Poly_sub) := ⟨rfl, rfl, rfl, by decide +kernel, rfl, by decide +kernel, by decide +kernel⟩
abbrev N_Poly_rsub : List Str := ["self", "other"]
theorem sc_Poly_rsub : FnScope N_Poly_rsub ["self", "other"] (defScope s_Poly_rsub) := ⟨rfl, rfl, rfl, by decide +kernel, rfl, by decide +kernel, by decide +kernel⟩
abbrev N_Poly_mul : List Str := ["self", "other", "item"]
theorem sc_Poly_mul : FnScope N_Poly_mul ["self", "other"] (defScope s_Poly_mul) := ⟨rfl, rfl, rfl, by decide +kernel, rfl, by decide +kernel, by decide +kernel⟩
abbrev N_Poly_rmul : List Str := ["self", "other", "item"]
theorem sc_Poly_rmul : FnScope N_Poly_rmul ["self", "other"] (defScope s_Poly_rmul) := ⟨rfl, rfl, rfl, by decide +kernel, rfl, by decide +kernel, by decide +kernel⟩
abbrev N_Poly_at : List Str := ["self", "number"]
theorem sc_Poly_at : FnScope N_Poly_at ["self", "number"] (defScope s_Poly_at) := ⟨rfl, rfl, rfl, by decide +kernel, rfl, by decide +kernel, by decide +kernel⟩
abbrev N_Poly_power : List Str := ["self", "k"]
theorem sc_Poly_power : FnScope N_Poly_power ["self", "k"] (defScope s_Poly_power) := ⟨rfl, rfl, rfl, by decide +kernel, rfl, by decide +kernel, by decide +kernel⟩
abbrev N_Poly_put_in : List Str := ["self", "q"]
theorem sc_Poly_put_in : FnScope N_Poly_put_in ["self", "q"] (defScope s_Poly_put_in) := ⟨rfl, rfl, rfl, by decide +kernel, rfl, by decide +kernel, by decide +kernel⟩
abbrev N_Poly_derived : List Str := ["self"]
theorem sc_Poly_derived : FnScope N_Poly_derived ["self"] (defScope s_Poly_derived) := ⟨rfl, rfl, rfl, by decide +kernel, rfl, by decide +kernel, by decide +kernel⟩
abbrev N_Poly_over : List Str := ["self", "q"]
theorem sc_Poly_over : FnScope N_Poly_over ["self", "q"] (defScope s_Poly_over) := ⟨rfl, rfl, rfl, by decide +kernel, rfl, by decide +kernel, by decide +kernel⟩
abbrev N_poly_power : List Str := ["p", "k", "result"]
theorem sc_poly_power : FnScope N_poly_power ["p", "k"] (defScope s_poly_power) := ⟨rfl, rfl, rfl, by decide +kernel, rfl, by decide +kernel, by decide +kernel⟩
abbrev N_need_plain_poly : List Str := ["p"]
theorem sc_need_plain_poly : FnScope N_need_plain_poly ["p"] (defScope s_need_plain_poly) := ⟨rfl, rfl, rfl, by decide +kernel, rfl, by decide +kernel, by decide +kernel⟩
abbrev N_poly_value_at : List Str := ["p", "ratio", "total", "item"]
theorem sc_poly_value_at : FnScope N_poly_value_at ["p", "ratio"] (defScope s_poly_value_at) := ⟨rfl, rfl, rfl, by decide +kernel, rfl, by decide +kernel, by decide +kernel⟩
abbrev N_divided : List Str := ["p", "q", "zero", "rest", "found", "k", "times", "i", "item"]
theorem sc_divided : FnScope N_divided ["p", "q"] (defScope s_divided) := ⟨rfl, rfl, rfl, by decide +kernel, rfl, by decide +kernel, by decide +kernel⟩
abbrev N_Characters_init : List Str := ["self", "shares"]
theorem sc_Characters_init : FnScope N_Characters_init ["self", "shares"] (defScope s_Characters_init) := ⟨rfl, rfl, rfl, by decide +kernel, rfl, by decide +kernel, by decide +kernel⟩
abbrev N_Characters_eq : List Str := ["self", "other"]
theorem sc_Characters_eq : FnScope N_Characters_eq ["self", "other"] (defScope s_Characters_eq) := ⟨rfl, rfl, rfl, by decide +kernel, rfl, by decide +kernel, by decide +kernel⟩
abbrev N_NoCharacters_init : List Str := ["self", "why", "index"]
theorem sc_NoCharacters_init : FnScope N_NoCharacters_init ["self", "why", "index"] (defScope s_NoCharacters_init) := ⟨rfl, rfl, rfl, by decide +kernel, rfl, by decide +kernel, by decide +kernel⟩
abbrev N_NoCharacters_eq : List Str := ["self", "other"]
theorem sc_NoCharacters_eq : FnScope N_NoCharacters_eq ["self", "other"] (defScope s_NoCharacters_eq) := ⟨rfl, rfl, rfl, by decide +kernel, rfl, by decide +kernel, by decide +kernel⟩
abbrev N_is_integers : List Str := ["value", "item"]
theorem sc_is_integers : FnScope N_is_integers ["value"] (defScope s_is_integers) := ⟨rfl, rfl, rfl, by decide +kernel, rfl, by decide +kernel, by decide +kernel⟩
abbrev N_shares_of : List Str := ["row", "found", "here", "item"]
theorem sc_shares_of : FnScope N_shares_of ["row"] (defScope s_shares_of) := ⟨rfl, rfl, rfl, by decide +kernel, rfl, by decide +kernel, by decide +kernel⟩
abbrev N_characters_breach : List Str := ["row", "index", "item", "shares"]
theorem sc_characters_breach : FnScope N_characters_breach ["row"] (defScope s_characters_breach) := ⟨rfl, rfl, rfl, by decide +kernel, rfl, by decide +kernel, by decide +kernel⟩
abbrev N_need_integers : List Str := ["row"]
theorem sc_need_integers : FnScope N_need_integers ["row"] (defScope s_need_integers) := ⟨rfl, rfl, rfl, by decide +kernel, rfl, by decide +kernel, by decide +kernel⟩
abbrev N_settled_character : List Str := ["row", "breach"]
theorem sc_settled_character : FnScope N_settled_character ["row"] (defScope s_settled_character) := ⟨rfl, rfl, rfl, by decide +kernel, rfl, by decide +kernel, by decide +kernel⟩
abbrev N_settle_character : List Str := ["row"]
theorem sc_settle_character : FnScope N_settle_character ["row"] (defScope s_settle_character) := ⟨rfl, rfl, rfl, by decide +kernel, rfl, by decide +kernel, by decide +kernel⟩
abbrev N_need_character : List Str := ["row", "answer"]
theorem sc_need_character : FnScope N_need_character ["row"] (defScope s_need_character) := ⟨rfl, rfl, rfl, by decide +kernel, rfl, by decide +kernel, by decide +kernel⟩
abbrev N_cable_of : List Str := ["row", "shares", "found", "k", "p"]
theorem sc_cable_of : FnScope N_cable_of ["row"] (defScope s_cable_of) := ⟨rfl, rfl, rfl, by decide +kernel, rfl, by decide +kernel, by decide +kernel⟩
abbrev N_generators_of : List Str := ["row", "shares", "found", "index"]
theorem sc_generators_of : FnScope N_generators_of ["row"] (defScope s_generators_of) := ⟨rfl, rfl, rfl, by decide +kernel, rfl, by decide +kernel, by decide +kernel⟩
abbrev N_conductor_of : List Str := ["row", "shares", "some", "total", "index"]
theorem sc_conductor_of : FnScope N_conductor_of ["row"] (defScope s_conductor_of) := ⟨rfl, rfl, rfl, by decide +kernel, rfl, by decide +kernel, by decide +kernel⟩
abbrev N_times_of : List Str := ["row", "k", "shares", "some", "found", "index", "many"]
theorem sc_times_of : FnScope N_times_of ["row", "k"] (defScope s_times_of) := ⟨rfl, rfl, rfl, by decide +kernel, rfl, by decide +kernel, by decide +kernel⟩
abbrev N_times_factor : List Str := ["numbers", "k", "found", "at", "item"]
theorem sc_times_factor : FnScope N_times_factor ["numbers", "k"] (defScope s_times_factor) := ⟨rfl, rfl, rfl, by decide +kernel, rfl, by decide +kernel, by decide +kernel⟩
abbrev N_over_factor : List Str := ["numbers", "k", "rest", "found", "at"]
theorem sc_over_factor : FnScope N_over_factor ["numbers", "k"] (defScope s_over_factor) := ⟨rfl, rfl, rfl, by decide +kernel, rfl, by decide +kernel, by decide +kernel⟩
abbrev N_product_of : List Str := ["factors", "numbers", "k", "many", "lap"]
theorem sc_product_of : FnScope N_product_of ["factors"] (defScope s_product_of) := ⟨rfl, rfl, rfl, by decide +kernel, rfl, by decide +kernel, by decide +kernel⟩
abbrev N_knot_factors : List Str := ["row", "found", "e", "p", "a"]
theorem sc_knot_factors : FnScope N_knot_factors ["row"] (defScope s_knot_factors) := ⟨rfl, rfl, rfl, by decide +kernel, rfl, by decide +kernel, by decide +kernel⟩
abbrev N_knot_poly : List Str := ["row"]
theorem sc_knot_poly : FnScope N_knot_poly ["row"] (defScope s_knot_poly) := ⟨rfl, rfl, rfl, by decide +kernel, rfl, by decide +kernel, by decide +kernel⟩
abbrev N_orders_poly : List Str := ["row", "most", "found", "k"]
theorem sc_orders_poly : FnScope N_orders_poly ["row"] (defScope s_orders_poly) := ⟨rfl, rfl, rfl, by decide +kernel, rfl, by decide +kernel, by decide +kernel⟩
abbrev N_law_pen : List Str := ["script", "fold", "cell"]
theorem sc_law_pen : FnScope N_law_pen ["script"] (defScope s_law_pen) := ⟨rfl, rfl, rfl, by decide +kernel, rfl, by decide +kernel, by decide +kernel⟩
abbrev N_law_draw : List Str := ["pen", "many", "cell", "digit", "mixed"]
theorem sc_law_draw : FnScope N_law_draw ["pen", "many"] (defScope s_law_draw) := ⟨rfl, rfl, rfl, by decide +kernel, rfl, by decide +kernel, by decide +kernel⟩
abbrev N_law_pick : List Str := ["pen", "some"]
theorem sc_law_pick : FnScope N_law_pick ["pen", "some"] (defScope s_law_pick) := ⟨rfl, rfl, rfl, by decide +kernel, rfl, by decide +kernel, by decide +kernel⟩
abbrev N_law_listed : List Str := ["pen", "row"]
theorem sc_law_listed : FnScope N_law_listed ["pen", "row"] (defScope s_law_listed) := ⟨rfl, rfl, rfl, by decide +kernel, rfl, by decide +kernel, by decide +kernel⟩
abbrev N_law_g_caught : List Str := ["call", "e"]
theorem sc_law_g_caught : FnScope N_law_g_caught ["call"] (defScope s_law_g_caught) := ⟨rfl, rfl, rfl, by decide +kernel, rfl, by decide +kernel, by decide +kernel⟩
abbrev N_law_g_gcd : List Str := ["a", "b"]
theorem sc_law_g_gcd : FnScope N_law_g_gcd ["a", "b"] (defScope s_law_g_gcd) := ⟨rfl, rfl, rfl, by decide +kernel, rfl, by decide +kernel, by decide +kernel⟩
abbrev N_law_g_shares : List Str := ["row", "found", "here", "item"]
theorem sc_law_g_shares : FnScope N_law_g_shares ["row"] (defScope s_law_g_shares) := ⟨rfl, rfl, rfl, by decide +kernel, rfl, by decide +kernel, by decide +kernel⟩
abbrev N_law_g_conductor : List Str := ["row", "total", "ahead", "shares", "i", "a", "c"]
theorem sc_law_g_conductor : FnScope N_law_g_conductor ["row"] (defScope s_law_g_conductor) := ⟨rfl, rfl, rfl, by decide +kernel, rfl, by decide +kernel, by decide +kernel⟩
abbrev N_law_g_rows : List Str := ["pen", "some"]
theorem sc_law_g_rows : FnScope N_law_g_rows ["pen"] (defScope s_law_g_rows) := ⟨rfl, rfl, rfl, by decide +kernel, rfl, by decide +kernel, by decide +kernel⟩
abbrev N_law_t_times : List Str := ["numbers", "k", "found", "at", "item"]
theorem sc_law_t_times : FnScope N_law_t_times ["numbers", "k"] (defScope s_law_t_times) := ⟨rfl, rfl, rfl, by decide +kernel, rfl, by decide +kernel, by decide +kernel⟩
abbrev N_law_t_is : List Str := ["told", "factors", "low", "high", "k", "many", "lap", "item"]
theorem sc_law_t_is : FnScope N_law_t_is ["told", "factors"] (defScope s_law_t_is) := ⟨rfl, rfl, rfl, by decide +kernel, rfl, by decide +kernel, by decide +kernel⟩
abbrev N_law_t_cable : List Str := ["row", "shares", "found", "k", "p", "a"]
theorem sc_law_t_cable : FnScope N_law_t_cable ["row"] (defScope s_law_t_cable) := ⟨rfl, rfl, rfl, by decide +kernel, rfl, by decide +kernel, by decide +kernel⟩
abbrev N_law_t_knot : List Str := ["row", "found", "e", "p", "a"]
theorem sc_law_t_knot : FnScope N_law_t_knot ["row"] (defScope s_law_t_knot) := ⟨rfl, rfl, rfl, by decide +kernel, rfl, by decide +kernel, by decide +kernel⟩
abbrev N_law_generators : List Str := ["row", "shares", "found", "i"]
theorem sc_law_generators : FnScope N_law_generators ["row"] (defScope s_law_generators) := ⟨rfl, rfl, rfl, by decide +kernel, rfl, by decide +kernel, by decide +kernel⟩
abbrev N_law_orders : List Str := ["row", "most", "there", "k", "s"]
theorem sc_law_orders : FnScope N_law_orders ["row", "most"] (defScope s_law_orders) := ⟨rfl, rfl, rfl, by decide +kernel, rfl, by decide +kernel, by decide +kernel⟩
abbrev N_law : List Str := ["script", "pen", "lap", "row", "n", "b", "told", "most", "there", "due", "other", "k", "bad", "wrong", "call", "item", "i"]
theorem sc_law : FnScope N_law ["script"] (defScope s_law) := ⟨rfl, rfl, rfl, by decide +kernel, rfl, by decide +kernel, by decide +kernel⟩
end K42
set_option maxHeartbeats 0
namespace K42
open PySem PySem.Spec PyProof.Rows L2 He TC Evl
theorem hu64 {k : Nat} {A : Around} (h : Room k A) : A.units + 64 < cLine := h.units
section
variable {P : Program} {w : World} {h0 base : Heap} {K : PySem.W.Frag} {mg : Str → Option Value}
theorem Wk.ex (T : Wk h0 K mg base) : stB K = true ∧ gcdB K = true ∧ (xl.all fun p => xclsB K p.1 p.2) = true ∧ il.all (insB K) = true ∧ kl.all (kiB K) = true ∧ (ml.all fun q => (Fa.exm q.1 q.2.1 q.2.2).ok K) = true ∧ il.all (neB K) = true ∧ nl.all (nfB K) = true := by
  obtain ⟨h1, h⟩ := ba (show K42.ex K = true from T.says.more)
  obtain ⟨h2, h⟩ := ba h
  obtain ⟨h3, h⟩ := ba h
  obtain ⟨h4, h⟩ := ba h
  obtain ⟨h5, h⟩ := ba h
  obtain ⟨h6, h⟩ := ba h
  obtain ⟨h7, h⟩ := ba h
  obtain ⟨h8, h9⟩ := ba h
  exact ⟨h1, h2, h3, h4, h5, h6, h7, h8⟩
theorem Wk.sf (T : Wk h0 K mg base) : PySem.W.selfFirst K (ga K "Ratio") = true := by
  obtain ⟨h1, h⟩ := ba (show K42.ex K = true from T.says.more)
  obtain ⟨h2, h⟩ := ba h
  obtain ⟨h3, h⟩ := ba h
  obtain ⟨h4, h⟩ := ba h
  obtain ⟨h5, h⟩ := ba h
  obtain ⟨h6, h⟩ := ba h
  obtain ⟨h7, h⟩ := ba h
  obtain ⟨h8, h9⟩ := ba h
  exact h9
theorem m_gcd (T : Wk h0 K mg base) : mg "gcd" = some (.builtin "math.gcd") := PySem.W.mg_of T.kin T.glob (eqO_ok T.ex.2.1)
theorem insC (T : Wk h0 K mg base) {x : Str} (h : x ∈ il) : InsC K (ga K x) := ins_ok (List.all_eq_true.mp T.ex.2.2.2.1 x h)
instance kdDec : DecidableEq Kd := fun a b => match a, b with
  | .inl x, .inl y => if h : x = y then .isTrue (by rw [h]) else .isFalse (fun e => h (Sum.inl.inj e))
  | .inr x, .inr y => if h : x = y then .isTrue (by rw [h]) else .isFalse (fun e => h (Sum.inr.inj e))
  | .inl _, .inr _ => .isFalse (fun e => nomatch e)
  | .inr _, .inl _ => .isFalse (fun e => nomatch e)
theorem kit (T : Wk h0 K mg base) {q : Kd × Kd × Bool} (h : (kl.any fun p => decide (p = q)) = true) : PySem.W.kitOne K (kdV K q.1) (kdV K q.2.1) = some q.2.2 := by
  obtain ⟨p, hp, e⟩ := List.any_eq_true.mp h
  have e' := of_decide_eq_true e
  subst e'
  exact of_decide_eq_true (List.all_eq_true.mp T.ex.2.2.2.2.1 p hp)
theorem nfst (T : Wk h0 K mg base) {q : Str × Str} (h : q ∈ nl) : PySem.W.notFirst K (ga K q.1) (.ref (ga K q.2)) = true := List.all_eq_true.mp T.ex.2.2.2.2.2.2.2 q h
def sp_is_row (K : PySem.W.Frag) : Sp := fun vs H Q _ => ∃ x t b, vs = [x] ∧ TyX K H x t ∧ PySem.W.kitAny K t [.type "list", .type "tuple"] = some b ∧ ∀ H', Ex H H' → Q (.bl b) H'
theorem ok_is_row (T : Wk h0 K mg base) : ClC CX0 P w K mg base 1 "is_row" ["value"] (sp_is_row K) := by
  obtain ⟨fd, F⟩ := f_is_row T
  refine ⟨_, fd, g_is_row T, F.kp, F.bindsN (fun _ _ _ _ _ _ us hl => match us, hl with | [_], _ => rfl), F.ok sc_is_row (fun vs H Q E h => ?_) (fun cdv A outer s H vs Q E hr h => ⟨_, PSs.nox (pss_one (ps_ret (pe_callB (call_isi2 (K := K) rfl) (by rfl) (m_isinstance T) boot_isinstance (pa_cons (pv 0) (pa_cons (pe_tup (pa_cons (pe_bltn (v := .ty "list") (by rfl) (m_list T) (by decide +kernel) rfl) (pa_cons (pe_bltn (v := .ty "tuple") (by rfl) (m_tuple T) (by decide +kernel) rfl) pa_nil))) pa_nil))))), ?_⟩)⟩
  · obtain ⟨x, t, b, rfl, _⟩ := h; rfl
  · obtain ⟨x, t, b, rfl, ty, hk, hQ⟩ := h
    exact s_ret (ev_isiT (ev_var rfl) (.ty _) (.ty _) ty hk) hQ
def sp_is_integer (K : PySem.W.Frag) : Sp := fun vs H Q _ => ∃ x t b c, vs = [x] ∧ TyX K H x t ∧ PySem.W.kitOne K t (.type "int") = some b ∧ PySem.W.kitOne K t (.type "bool") = some c ∧ ∀ H', Ex H H' → Q (.bl (b && !c)) H'
theorem ok_is_integer (T : Wk h0 K mg base) : ClC CX0 P w K mg base 1 "is_integer" ["value"] (sp_is_integer K) := by
  obtain ⟨fd, F⟩ := f_is_integer T
  refine ⟨_, fd, g_is_integer T, F.kp, F.bindsN (fun _ _ _ _ _ _ us hl => match us, hl with | [_], _ => rfl), F.ok sc_is_integer (fun vs H Q E h => ?_) (fun cdv A outer s H vs Q E hr h => ⟨_, PSs.nox (pss_one (ps_ret ((pe_and (pe_callB (call_isi1 (K := K) rfl) (by rfl) (m_isinstance T) boot_isinstance (pa_cons (pv 0) (pa_cons (pe_bltn (v := .ty "int") (by rfl) (m_int T) (by decide +kernel) rfl) pa_nil))) (pe_one (pe_not (pe_callB (call_isi1 (K := K) rfl) (by rfl) (m_isinstance T) boot_isinstance (pa_cons (pv 0) (pa_cons (pe_bltn (v := .ty "bool") (by rfl) (m_bool T) (by decide +kernel) rfl) pa_nil))))))))), ?_⟩)⟩
  · obtain ⟨x, t, b, c, rfl, _⟩ := h; rfl
  · obtain ⟨x, t, b, c, rfl, ty, hk, hk2, hQ⟩ := h
    exact s_ret (ev_andV (ev_isi (ev_var rfl) (.ty _) ty hk) fun _ => ev_notV (ev_isi (ev_var rfl) (.ty _) ty hk2)) hQ
def isRowD : PyData → Bool
  | .list _ => true
  | .tuple _ => true
  | _ => false
def isIntD : PyData → Bool
  | .int _ => true
  | _ => false
def itemsD : PyData → List PyData
  | .list ds => ds
  | .tuple ds => ds
  | _ => []
def isInts (d : PyData) : Bool := isRowD d && (itemsD d).all isIntD
theorem kit2 {s : String} {c1 c2 r : Bool} (h1 : kitB s "list" = some c1) (h2 : kitB s "tuple" = some c2) (e : (c1 || c2) = r) : PySem.W.kitAny K (.type s) [.type "list", .type "tuple"] = some r := by
  subst e
  refine kitAny_cons (kit_ty h1) (fun hc => kitAny_cons (kit_ty h2) (fun hc2 => ?_) (fun hc2 => ?_)) (fun hc => ?_)
  · rw [hc, hc2]; exact kitAny_nil
  · rw [hc2, Bool.or_true]
  · rw [hc, Bool.true_or]
theorem kit_row {v : V} {d : PyData} {H : Hp} (h : Dp K H v d) : PySem.W.kitAny K (.type (tyOf d)) [.type "list", .type "tuple"] = some (isRowD d) := by
  cases h with
  | non => exact kit2 (s := "NoneType") (c1 := false) (c2 := false) (by decide +kernel) (by decide +kernel) rfl
  | bl b => exact kit2 (s := "bool") (c1 := false) (c2 := false) (by decide +kernel) (by decide +kernel) rfl
  | int i => exact kit2 (s := "int") (c1 := false) (c2 := false) (by decide +kernel) (by decide +kernel) rfl
  | str x => exact kit2 (s := "str") (c1 := false) (c2 := false) (by decide +kernel) (by decide +kernel) rfl
  | lst _ _ => exact kit2 (s := "list") (c1 := true) (c2 := false) (by decide +kernel) (by decide +kernel) rfl
  | tup _ _ => exact kit2 (s := "tuple") (c1 := false) (c2 := true) (by decide +kernel) (by decide +kernel) rfl
theorem kit_int {v : V} {d : PyData} {H : Hp} (h : Dp K H v d) : ∃ b c, PySem.W.kitOne K (.type (tyOf d)) (.type "int") = some b ∧ PySem.W.kitOne K (.type (tyOf d)) (.type "bool") = some c ∧ (b && !c) = isIntD d := by
  cases h with
  | non => exact ⟨false, false, kit_ty (a := "NoneType") (by decide +kernel), kit_ty (a := "NoneType") (by decide +kernel), rfl⟩
  | bl b => exact ⟨true, true, kit_ty (a := "bool") (by decide +kernel), kit_ty (a := "bool") (by decide +kernel), rfl⟩
  | int i => exact ⟨true, false, kit_ty (a := "int") (by decide +kernel), kit_ty (a := "int") (by decide +kernel), rfl⟩
  | str x => exact ⟨false, false, kit_ty (a := "str") (by decide +kernel), kit_ty (a := "str") (by decide +kernel), rfl⟩
  | lst _ _ => exact ⟨false, false, kit_ty (a := "list") (by decide +kernel), kit_ty (a := "list") (by decide +kernel), rfl⟩
  | tup _ _ => exact ⟨false, false, kit_ty (a := "tuple") (by decide +kernel), kit_ty (a := "tuple") (by decide +kernel), rfl⟩
theorem sv_is_row {x : V} {d : PyData} {H : Hp} (h : Dp K H x d) : SpV (sp_is_row K) [x] H (.bl (isRowD d)) := fun H1 e Q q E => ⟨x, _, _, rfl, Dp.tyX (Dp.ex e h), kit_row h, q⟩
theorem sv_is_integer {x : V} {d : PyData} {H : Hp} (h : Dp K H x d) : SpV (sp_is_integer K) [x] H (.bl (isIntD d)) := fun H1 e Q q E => by
  obtain ⟨b, c, h1, h2, h3⟩ := kit_int h
  exact ⟨x, _, b, c, rfl, Dp.tyX (Dp.ex e h), h1, h2, fun H' e' => h3 ▸ q H' e'⟩
theorem ev_is_row {te : TE} {σ : L2.St} {x : V} {d : PyData} {H : Hp} (h : Ev te σ H x) (hd : Dp K H x d) : Ev (tCall (sp_is_row K) [] E0 (tCons te tNil)) σ H (.bl (isRowD d)) := ev_call0 (ea1 h) (sv_is_row hd)
theorem ev_is_integer {te : TE} {σ : L2.St} {x : V} {d : PyData} {H : Hp} (h : Ev te σ H x) (hd : Dp K H x d) : Ev (tCall (sp_is_integer K) [] E0 (tCons te tNil)) σ H (.bl (isIntD d)) := ev_call0 (ea1 h) (sv_is_integer hd)
theorem rowD_seq {d : PyData} (h : isRowD d = true) : ∃ b ds, d = seqD b ds ∧ itemsD d = ds := by
  cases d <;> first | exact ⟨false, _, rfl, rfl⟩ | exact ⟨true, _, rfl, rfl⟩ | cases h
def sp_is_integers (K : PySem.W.Frag) : Sp := fun vs H Q _ => ∃ x d, vs = [x] ∧ Dp K H x d ∧ (itemsD d).length ≤ 40000 ∧ ∀ H', Ex H H' → Q (.bl (isInts d)) H'
theorem ok_is_integers (T : Wk h0 K mg base) : ClC CX0 P w K mg base 2 "is_integers" ["value"] (sp_is_integers K) := by
  obtain ⟨fd, F⟩ := f_is_integers T
  refine ⟨_, fd, g_is_integers T, F.kp, F.bindsN (fun _ _ _ _ _ _ us hl => match us, hl with | [_], _ => rfl), F.ok sc_is_integers (fun vs H Q E h => ?_) (fun cdv A outer s H vs Q E hr h => ⟨_, PSs.nox (pss_one (ps_ret ((pe_and (pe_cl (ok_is_row T) hr (by decide) (by rfl) (pa_cons (pv 0) pa_nil)) (pe_one (pe_callB (cr_all rfl) (by rfl) (m_all T) boot_all (pa_cons (pe_lc (own := [("item", 1)]) (g := gName 1) rfl sc_is_integers.nd (pi_any (pv 0)) (blkOk_by (N := N_is_integers) (sc := defScope s_is_integers) (by decide +kernel)) (fun _ _ _ _ _ => (pg_name (i := 1) sc_is_integers.nd rfl (Or.inl rfl))) (fun _ _ _ _ _ => pts_nil) (fun _ _ _ _ _ => (pe_cl (ok_is_integer T) hr (by decide) (by rfl) (pa_cons (pv 1) pa_nil)))) pa_nil))))))), ?_⟩)⟩
  · obtain ⟨x, d, rfl, _⟩ := h; rfl
  · obtain ⟨x, d, rfl, hd, hl, hQ⟩ := h
    refine s_ret (ev_andV (ev_is_row (ev_var rfl) hd) fun hrow => ?_) hQ
    obtain ⟨b, ds, rfl, e⟩ := rowD_seq hrow
    rw [e] at hl ⊢
    obtain ⟨a, xs, rfl, sq, da⟩ := Dp.seq_inv hd
    have hlen := DpAll.length da
    refine ev_is (ev_all (bs := ds.map isIntD) (el_lcA (fun _ => true) (fun i => .bl (isIntD (ds.getD i .none))) (ev_var rfl) sq (by omega) (fun _ => rfl) (fun i x H1 _ _ => fun H2 _ Q q => q H2 (Ex.refl H2)) (fun i x H1 e1 hx _ => ?_)) ?_) ?_
    · obtain ⟨d', hd1, hd2⟩ := DpAll.get da hx
      have e2 : ds.getD i .none = d' := by rw [List.getD_eq_getElem?_getD, hd1]; rfl
      rw [e2]
      exact ev_is_integer (ev_var rfl) (Dp.ex e1 hd2)
    · rw [given_all, hlen, List.map_map]; exact range_getD (V.bl ∘ isIntD) .none ds
    · rw [List.all_map]; rfl
theorem ev_is_integers {te : TE} {σ : L2.St} {x : V} {d : PyData} {H : Hp} (h : Ev te σ H x) (hd : Dp K H x d) (hl : (itemsD d).length ≤ 40000) : Ev (tCall (sp_is_integers K) [] E0 (tCons te tNil)) σ H (.bl (isInts d)) :=
  ev_call0 (ea1 h) fun H1 e Q q E => ⟨x, d, rfl, Dp.ex e hd, hl, q⟩
theorem isInts_inv {d : PyData} (h : isInts d = true) : ∃ (b : Bool) (ns : List Int), d = seqD b (ns.map PyData.int) := by
  obtain ⟨h1, h2⟩ := ba h
  obtain ⟨b, ds, rfl, e⟩ := rowD_seq h1
  rw [e] at h2
  refine ⟨b, ds.map (fun d => match d with | .int i => i | _ => 0), ?_⟩
  congr 1
  rw [List.map_map]
  conv => lhs; rw [← List.map_id ds]
  apply List.map_congr_left
  intro d hd
  have := List.all_eq_true.mp h2 d hd
  cases d <;> first | rfl | cases this
end
end K42
set_option maxHeartbeats 0
namespace K42
open PySem PySem.Spec PyProof.Rows L2 He TC Evl
section
variable {P : Program} {w : World} {h0 base : Heap} {K : PySem.W.Frag} {mg : Str → Option Value}
def spA_kept (K : PySem.W.Frag) : Sp := fun vs H Q _ => ∃ i : Int, vs = [.int i] ∧ ∀ H', Ex H H' → Q (.int i) H'
def tupD : PyData → PyData
  | .list ds => .tuple ds
  | d => d
/-- what kept makes of rows of integers, and of what is no row -/
def charD (d : PyData) : PyData := if isInts d = true then tupD d else d
def okIn (d : PyData) : Prop := isInts d = true ∨ isRowD d = false
theorem isRow_ints {d : PyData} (h : isInts d = true) : isRowD d = true := by
  obtain ⟨b, ns, rfl⟩ := isInts_inv h
  cases b <;> rfl
theorem charD_no {d : PyData} (h : isRowD d = false) : charD d = d := by
  unfold charD
  cases hi : isInts d with
  | false => rw [if_neg Bool.false_ne_true]
  | true => exact absurd (h.symm.trans (isRow_ints hi)) Bool.false_ne_true
def sp_kept (K : PySem.W.Frag) : Sp := fun vs H Q _ => ∃ (x : V) (d : PyData), vs = [x] ∧ Dp K H x d ∧ okIn d ∧ (itemsD d).length ≤ 40000 ∧ ∀ v H', Ex H H' → Dp K H' v (charD d) → Q v H'
theorem okA_kept (T : Wk h0 K mg base) : ClC CX0 P w K mg base 2 "kept" ["value"] (spA_kept K) := by
  obtain ⟨fd, F⟩ := f_kept T
  have ck : ClC CX0 P w K mg base 0 "kept" ["value"] (fun _ _ _ _ => False) := cl_never (g_kept T) F.kp (F.bindsN (fun _ _ _ _ _ _ us hl => match us, hl with | [_], _ => rfl))
  refine ⟨_, fd, g_kept T, F.kp, F.bindsN (fun _ _ _ _ _ _ us hl => match us, hl with | [_], _ => rfl), F.ok sc_kept (fun vs H Q E h => ?_) (fun cdv A outer s H vs Q E hr h => ⟨_, PSs.nox (pss_one (ps_ret (pe_ifExp (pt_val (pe_cl (ok_is_row T) hr (by decide) (by rfl) (pa_cons (pv 0) pa_nil))) (pe_callTy call_tuple_of (by rfl) (m_tuple T) (by decide +kernel) (pa_cons (pe_lc (own := [("item", 1)]) (g := gName 1) rfl sc_kept.nd (pi_any (pv 0)) (blkOk_by (N := N_kept) (sc := defScope s_kept) (by decide +kernel)) (fun _ _ _ _ _ => (pg_name (i := 1) sc_kept.nd rfl (Or.inl rfl))) (fun _ _ _ _ _ => pts_nil) (fun _ _ _ _ _ => (pe_cl ck hr (by decide) (by rfl) (pa_cons (pv 1) pa_nil)))) pa_nil)) (pv 0)))), ?_⟩)⟩
  · obtain ⟨i, rfl, _⟩ := h; rfl
  · obtain ⟨i, rfl, hQ⟩ := h
    exact s_ret (ev_if (et_B (ev_is_row (ev_var rfl) (.int i))) (fun h => by cases h) (fun _ => ev_var rfl)) hQ
theorem ok_kept (T : Wk h0 K mg base) : ClC CX0 P w K mg base 3 "kept" ["value"] (sp_kept K) := by
  obtain ⟨fd, F⟩ := f_kept T
  have ck : ClC CX0 P w K mg base 2 "kept" ["value"] (spA_kept K) := okA_kept T
  refine ⟨_, fd, g_kept T, F.kp, F.bindsN (fun _ _ _ _ _ _ us hl => match us, hl with | [_], _ => rfl), F.ok sc_kept (fun vs H Q E h => ?_) (fun cdv A outer s H vs Q E hr h => ⟨_, PSs.nox (pss_one (ps_ret (pe_ifExp (pt_val (pe_cl (ok_is_row T) hr (by decide) (by rfl) (pa_cons (pv 0) pa_nil))) (pe_callTy call_tuple_of (by rfl) (m_tuple T) (by decide +kernel) (pa_cons (pe_lc (own := [("item", 1)]) (g := gName 1) rfl sc_kept.nd (pi_any (pv 0)) (blkOk_by (N := N_kept) (sc := defScope s_kept) (by decide +kernel)) (fun _ _ _ _ _ => (pg_name (i := 1) sc_kept.nd rfl (Or.inl rfl))) (fun _ _ _ _ _ => pts_nil) (fun _ _ _ _ _ => (pe_cl ck hr (by decide) (by rfl) (pa_cons (pv 1) pa_nil)))) pa_nil)) (pv 0)))), ?_⟩)⟩
  · obtain ⟨x, d, rfl, _⟩ := h; rfl
  · obtain ⟨x, d, rfl, hd, hk, hl0, hQ⟩ := h
    rcases hk.symm with hr | hi
    · rw [charD_no hr] at hQ
      exact s_retP (P := fun v H' => Dp K H' v d) (ep_if (b := isRowD d) (et_B (ev_is_row (ev_var rfl) hd)) (fun h => absurd (h.symm.trans hr) (fun z => Bool.noConfusion z)) (fun _ => (Ev.p (ev_var rfl)).imp fun v H1 e ev => ev ▸ Dp.ex e hd)) (fun v H1 e p => hQ v H1 e p)
    have hch : charD d = tupD d := by unfold charD; rw [if_pos hi]
    rw [hch] at hQ
    obtain ⟨b, ns, rfl⟩ := isInts_inv hi
    have htup : tupD (seqD b (ns.map PyData.int)) = .tuple (ns.map PyData.int) := by cases b <;> rfl
    rw [htup] at hQ
    obtain ⟨a, xs, rfl, sq, da⟩ := Dp.seq_inv hd
    have exs := DpAll.ints_inv da
    subst exs
    have hl : ns.length ≤ 40000 := by
      have : itemsD (seqD b (ns.map PyData.int)) = ns.map PyData.int := by cases b <;> rfl
      rw [this, List.length_map] at hl0
      exact hl0
    have dp : Dp K H (.ref a) (seqD b (ns.map PyData.int)) := Dp.seq sq DpAll.ints
    have hrow : isRowD (seqD b (ns.map PyData.int)) = true := by cases b <;> rfl
    refine s_retP (P := fun v H' => Dp K H' v (.tuple (ns.map PyData.int))) (ep_if (et_B (ev_is_row (ev_var rfl) dp)) (fun _ => ?_) (fun h => by rw [hrow] at h; cases h)) (fun v H1 e p => hQ v H1 e p)
    refine (ep_tupleOf (b := false) (R := fun xs _ => xs = ns.map V.int) ((EvL.p (el_lcA (fun _ => true) (fun i => (ns.map V.int).getD i .non) (ev_var rfl) sq (by rw [List.length_map]; exact hl) (fun _ => rfl) (fun i x H1 _ _ => fun H2 _ Q q => q H2 (Ex.refl H2)) (fun i x H1 e1 hx _ => ?_))).imp fun v H1 _ ⟨p, e, hp⟩ => ⟨p, _, e, sq_of hp, ?_⟩) (fun _ _ _ _ z => z)).imp fun v H1 _ ⟨p, xs, e, hs, ex⟩ => ?_
    · have hx' := hx
      rw [List.getElem?_map] at hx'
      cases hn : ns[i]? with
      | none => rw [hn] at hx'; cases hx'
      | some n =>
        rw [hn] at hx'
        cases hx'
        have e2 : (ns.map V.int).getD i .non = .int n := by rw [List.getD_eq_getElem?_getD, hx]; rfl
        rw [e2]
        exact ev_call0 (ea1 (ev_var rfl)) fun H1 _ Q q E => ⟨n, rfl, q⟩
    · rw [given_all]; exact (range_getD (fun x => x) V.non (ns.map V.int)).trans (List.map_id _)
    · subst e ex
      exact Dp.tup hs DpAll.ints
def shGo (h : Int) : List Int → List Int
  | [] => []
  | n :: r => ((Nat.gcd h.natAbs n.natAbs : Nat) : Int) :: shGo ((Nat.gcd h.natAbs n.natAbs : Nat) : Int) r
def shares (ns : List Int) : List Int := shGo 0 ns
theorem shGo_len : ∀ (ns : List Int) (h : Int), (shGo h ns).length = ns.length
  | [], _ => rfl
  | n :: r, h => by show (shGo _ r).length + 1 = r.length + 1; rw [shGo_len r]
def sp_shares_of (K : PySem.W.Frag) : Sp := fun vs H Q _ => ∃ (b : Bool) (a : Addr) (ns : List Int), vs = [.ref a] ∧ SqB K H b a (ns.map V.int) ∧ ns.length ≤ 40000 ∧ RetL ((shares ns).map V.int) H Q
theorem ok_shares_of (T : Wk h0 K mg base) : ClC CX0 P w K mg base 1 "shares_of" ["row"] (sp_shares_of K) := by
  obtain ⟨fd, F⟩ := f_shares_of T
  refine ⟨_, fd, g_shares_of T, F.kp, F.bindsN (fun _ _ _ _ _ _ us hl => match us, hl with | [_], _ => rfl), F.ok sc_shares_of (fun vs H Q E h => ?_) (fun cdv A outer s H vs Q E hr h => ⟨_, PSs.nox (pss_cons (ps_par (i := 1) (j := 2) (by rfl) sc_shares_of.nd rfl rfl (by decide) rfl rfl (pa_cons (pe_lst pa_nil) (pa_cons (pe_int) pa_nil)) (by rfl)) (pss_cons (ps_for PassesOwn.never rfl (pi_any (pv 0)) (pg_name (i := 3) sc_shares_of.nd rfl (Or.inl rfl)) (pss_cons (ps_set (i := 2) sc_shares_of.nd rfl (Or.inl rfl) (pe_callBfun cr_gcd (by rfl) (m_gcd T) (pa_cons (pv 2) (pa_cons (pv 3) pa_nil)))) (pss_one (ps_expr (pe_bm PySem.F.plainAttrs_list PySem.F.slot_list_append PySem.F.type_list_append mt_append (pv 1) (pa_cons (pv 2) pa_nil)))))) (pss_one (ps_ret (pv 1))))), ?_⟩)⟩
  · obtain ⟨b, a, ns, rfl, _⟩ := h; rfl
  · obtain ⟨b, a, ns, rfl, sq, hl, hQ⟩ := h
    refine q_parL (el_lst ea_nil (by decide)) ev_c fun l H1 hl1 e1 h1 => ?_
    refine q_forA (b := b) (a := a) (xs := ns.map V.int) (ev_var rfl) (sq.ex e1) (fun i σ' H' => ∃ (acc : List Int) (here : Int) (it : Option V), σ' = [some (.ref a), some (.ref l), some (.int here), it] ∧ Ex H H' ∧ H' l = some (.lst (acc.map V.int)) ∧ shares ns = acc ++ shGo here (ns.drop i) ∧ acc.length = i)
      (fun H2 e2 => ⟨[], 0, none, rfl, e1.trans e2, e2 l _ h1, rfl, rfl⟩) (fun i σ' H' _ ⟨acc, here, it, _, e, _⟩ => sq.ex e) (fun i x σ' H' hx ⟨acc, here, it, es, e, hacc, hs, hal⟩ => ?_) (fun σ' H' ⟨acc, here, it, es, e, hacc, hs, hal⟩ => ?_)
    · subst es
      rw [List.getElem?_map] at hx
      cases hn : ns[i]? with
      | none => rw [hn] at hx; cases hx
      | some n =>
        rw [hn] at hx
        cases hx
        have hd : ns.drop i = n :: ns.drop (i + 1) := by
          obtain ⟨hlt, e3⟩ := List.getElem?_eq_some_iff.mp hn
          rw [← e3]; exact List.drop_eq_getElem_cons hlt
        have hlt : i < ns.length := (List.getElem?_eq_some_iff.mp hn).1
        refine q_asg (ev_gcd (ea2 (ev_var rfl) (ev_var rfl))) fun H2 e2 => ?_
        refine s_app (e2 l _ hacc) (ev_var rfl) (ev_var rfl) (by rw [List.length_map]; omega) fun H3 e3 => ?_
        refine ⟨acc ++ [((Nat.gcd here.natAbs n.natAbs : Nat) : Int)], _, _, rfl, Ex.mut ((e.trans e2).trans e3) hl1, ?_, ?_, by simp [hal]⟩
        · rw [List.map_append]; exact upd_same
        · rw [hs, hd, List.append_assoc]; rfl
    · subst es
      rw [List.length_map] at hs
      rw [List.drop_length] at hs
      have hs' : shares ns = acc := by rw [hs]; exact List.append_nil _
      refine s_ret (ev_var rfl) fun H2 e2 => hQ l H2 hl1 (e.trans e2) ?_
      rw [hs']
      exact e2 l _ hacc
theorem el_shares {te : TE} {σ : L2.St} {b : Bool} {a : Addr} {ns : List Int} {H : Hp} (h : Ev te σ H (.ref a)) (sq : SqB K H b a (ns.map V.int)) (hl : ns.length ≤ 40000) : EvL (tCall (sp_shares_of K) [] E0 (tCons te tNil)) σ H ((shares ns).map V.int) :=
  el_call (dvs := []) (ea1 h) fun H1 e Q q E => ⟨b, a, ns, rfl, sq.ex e, hl, fun p H2 hp e2 h2 => q p H2 hp e2 h2⟩
end
end K42
set_option maxHeartbeats 0
namespace K42
open PySem PySem.Spec PyProof.Rows L2 He TC Evl
abbrev PP : Program := (PySem.Challenge.rw_touchcurves_k42_whole_polynomials_of_kno).prog
section
variable {w : World} {h0 base : Heap} {K : PySem.W.Frag} {mg : Str → Option Value}
theorem xls (T : Wk h0 K mg base) {p : Str × List Str} (h : p ∈ xl) : XCls K (ga K p.1) (ma K (ga K p.1) "__init__") p.2 := xcls_ok (List.all_eq_true.mp T.ex.2.2.1 p h)
theorem er_BadRow (T : Wk h0 K mg base) : ErTxt PP K (ga K "BadRow") (ma K (ga K "BadRow") "__init__") "value" :=
  ⟨xls T (p := ("BadRow", ["value"])) (by decide), fun w A R s mg mb a t0 v X hlim G hsup B hbb hx hnx hroom hq =>
    er_init (x := "value") (f := "value") (xls T (p := ("BadRow", ["value"])) (by decide)) (T.says.init 1 (p := ("BadRow", s_BadRow_init)) rfl) (eqO_ok T.ex.1) (by decide +kernel) (by decide +kernel) X hlim G hsup B hbb hx hnx hroom
      (fun _ _ _ _ _ _ => rfl) (fun _ _ _ _ _ _ _ => ⟨_, rfl⟩) rfl rfl rfl rfl rfl hq⟩
theorem er_BadCharacters (T : Wk h0 K mg base) : ErTxt PP K (ga K "BadCharacters") (ma K (ga K "BadCharacters") "__init__") "answer" :=
  ⟨xls T (p := ("BadCharacters", ["answer"])) (by decide), fun w A R s mg mb a t0 v X hlim G hsup B hbb hx hnx hroom hq =>
    er_init (x := "answer") (f := "answer") (xls T (p := ("BadCharacters", ["answer"])) (by decide)) (T.says.init 6 (p := ("BadCharacters", s_BadCharacters_init)) rfl) (eqO_ok T.ex.1) (by decide +kernel) (by decide +kernel) X hlim G hsup B hbb hx hnx hroom
      (fun _ _ _ _ _ _ => rfl) (fun _ _ _ _ _ _ _ => ⟨_, rfl⟩) rfl rfl rfl rfl rfl hq⟩
end
end K42
set_option maxHeartbeats 0
namespace K42
open PySem PySem.Spec PyProof.Rows L2 He TC Evl
section
variable {w : World} {h0 base : Heap} {K : PySem.W.Frag} {mg : Str → Option Value}
theorem itemsA {b : Bool} {ds : List PyData} : itemsD (seqD b ds) = ds := by cases b <;> rfl
theorem isInts_seqA {b : Bool} {ns : List Int} : isInts (seqD b (ns.map PyData.int)) = true := by
  unfold isInts
  rw [itemsA]
  have h : (ns.map PyData.int).all isIntD = true := List.all_eq_true.mpr fun d hd => by
    obtain ⟨n, _, rfl⟩ := List.mem_map.mp hd
    rfl
  cases b <;> simp [h, seqD, isRowD]
def sp_Characters_init (K : PySem.W.Frag) : Sp := fun vs H Q _ => ∃ (x dx : Addr) (b : Bool) (a : Addr) (ns : List Int), vs = [.ref x, .ref a] ∧ H x = some (.ins (ga K "Characters") dx []) ∧ SqB K H b a (ns.map V.int) ∧ ns.length ≤ 40000 ∧ ∀ H' fs, ExX x H H' → H' x = some (.ins (ga K "Characters") dx fs) → Q .non H'
theorem ok_Characters_init (T : Wk h0 K mg base) : MkC CX0 PP w K mg base 4 "Characters" (ga K "Characters") ["self", "shares"] (sp_Characters_init K) := by
  obtain ⟨fd, F⟩ := f_Characters_init T
  refine ⟨_, fd, g_Characters T, k_Characters T, F.bindsN (fun _ _ _ _ _ _ us hl => match us, hl with | [_, _], _ => rfl), F.ok sc_Characters_init (fun vs H Q E h => ?_) (fun cdv A outer s H vs Q E hr h => ⟨_, PSs.nox (pss_one (ps_fld (pv 0) (pe_cl (ok_kept T) hr (by decide) (by rfl) (pa_cons (pv 1) pa_nil)) rfl)), ?_⟩)⟩
  · obtain ⟨x, dx, b, a, ns, rfl, _⟩ := h; rfl
  · obtain ⟨x, dx, b, a, ns, rfl, hx, sq, hl, hQ⟩ := h
    refine s_fld (P := fun _ _ => True) (ep_call (ea1 (ev_var rfl)) fun H1 e Q q E => ⟨.ref a, seqD b (ns.map PyData.int), rfl, Dp.seq (sq.ex e) DpAll.ints, .inl isInts_seqA, by rw [itemsA, List.length_map]; exact hl, fun v H' e' _ => q v H' e' True.intro⟩) (ev_var rfl) hx (c_Characters T) (n_Characters_shares T) (by decide) fun v H1 H2 e1 e2 _ => ?_
    exact hQ _ _ ((ExX.of (e1.trans e2)).trans ExX.upd) upd_same
theorem mk_Characters {H : Hp} {b : Bool} {a : Addr} {ns : List Int} (sq : SqB K H b a (ns.map V.int)) (hl : ns.length ≤ 40000) : SpMk (sp_Characters_init K) [.ref a] H (ga K "Characters") (fun x H' => ∃ dx fs, H' x = some (.ins (ga K "Characters") dx fs)) :=
  fun H1 e x dx nx nd ne Q E q => ⟨x, dx, b, a, ns, rfl, upd_same, sq.ex (e.trans (ex_mk nx nd ne)), hl, fun H' fs e' h => q H' e' ⟨dx, fs, h⟩⟩
def sp_No_init (C : Addr) : Sp := fun vs H Q _ => ∃ (x dx : Addr) (v1 v2 : V), vs = [.ref x, v1, v2] ∧ H x = some (.ins C dx []) ∧ ∀ H', ExX x H H' → H' x = some (.ins C dx [("why", v1), ("index", v2)]) → Q .non H'
theorem mk_No {H : Hp} {C : Addr} {v1 v2 : V} : SpMk (sp_No_init C) [v1, v2] H C (fun x H' => ∃ dx, H' x = some (.ins C dx [("why", v1), ("index", v2)])) :=
  fun H1 e x dx nx nd ne Q E q => ⟨x, dx, v1, v2, rfl, upd_same, fun H' e' h => q H' e' ⟨dx, h⟩⟩
theorem ok_NoCharacters_init (T : Wk h0 K mg base) : MkC CX0 PP w K mg base 1 "NoCharacters" (ga K "NoCharacters") ["self", "why", "index"] (sp_No_init (ga K "NoCharacters")) := by
  obtain ⟨fd, F⟩ := f_NoCharacters_init T
  refine ⟨_, fd, g_NoCharacters T, k_NoCharacters T, F.bindsN (fun _ _ _ _ _ _ us hl => match us, hl with | [_, _, _], _ => rfl), F.ok sc_NoCharacters_init (fun vs H Q E h => ?_) (fun cdv A outer s H vs Q E hr h => ⟨_, PSs.nox (pss_cons (ps_fld (pv 0) (pv 1) rfl) (pss_one (ps_fld (pv 0) (pv 2) rfl))), ?_⟩)⟩
  · obtain ⟨x, dx, v1, v2, rfl, _⟩ := h; rfl
  · obtain ⟨x, dx, v1, v2, rfl, hx, hQ⟩ := h
    refine q_fld (Ev.p (ev_var rfl)) (ev_var rfl) hx (c_NoCharacters T) (n_NoCharacters_why T) (by decide) fun v H1 H2 e1 e2 ev => ?_
    subst ev
    refine s_fld (Ev.p (ev_var rfl)) (ev_var rfl) upd_same (c_NoCharacters T) (n_NoCharacters_index T) (by show (1 : Nat) < 1000; decide) fun v H3 H4 e3 e4 ev => ?_
    subst ev
    exact hQ _ ((((ExX.of (e1.trans e2)).trans ExX.upd).trans (ExX.of (e3.trans e4))).trans ExX.upd) upd_same
/-- kept(value) -/
theorem ep_kept {te : TE} {σ : L2.St} {H : Hp} {v : V} {d : PyData} (h : Ev te σ H v) (hd : Dp K H v d) (hk : okIn d) (hl : (itemsD d).length ≤ 40000) : EvP (tCall (sp_kept K) [] E0 (tCons te tNil)) σ H (fun v H1 => Dp K H1 v (charD d)) := fun H1 e Q q =>
  h H1 e _ fun H2 e2 => ⟨v, d, rfl, Dp.ex (e.trans e2) hd, hk, hl, fun v' H3 e3 hv => q v' H3 (e2.trans e3) hv⟩
theorem eqC (T : Wk h0 K mg base) {x : Str} (h : x ∈ il) (m : Meth K (ga K x) "__eq__" (ma K (ga K x) "__eq__")) : EqC K (ga K x) (ma K (ga K x) "__eq__") :=
  ⟨(insC T h).cl, (insC T h).hm, m.1, eqO_ok (List.all_eq_true.mp T.ex.2.2.2.2.2.2.1 x h), m.2⟩
def sp_No_eq (K : PySem.W.Frag) (C : Addr) : Sp := fun vs H Q _ => ∃ (x y dx dy : Addr) (v1 v2 u1 u2 : V) (d1 d2 e1 e2 : PyData), vs = [.ref x, .ref y] ∧ H x = some (.ins C dx [("why", v1), ("index", v2)]) ∧ H y = some (.ins C dy [("why", u1), ("index", u2)]) ∧
  Dp K H v1 d1 ∧ Dp K H v2 d2 ∧ Dp K H u1 e1 ∧ Dp K H u2 e2 ∧ SeqAt.shaped (.tuple [d1, d2]) = true ∧ SeqAt.shaped (.tuple [e1, e2]) = true ∧ ∀ H', Ex H H' → Q (.bl (PyData.eqv (.tuple [d1, d2]) (.tuple [e1, e2]))) H'
theorem ep_pair {ta tb : TE} {σ : L2.St} {H : Hp} {v1 v2 : V} {d1 d2 : PyData} (h1 : Ev ta σ H v1) (h2 : Ev tb σ H v2) (p1 : Dp K H v1 d1) (p2 : Dp K H v2 d2) : EvP (tTup (tCons ta (tCons tb tNil))) σ H (fun v H1 => Dp K H1 v (.tuple [d1, d2])) :=
  (EvU.p (eu_tup (ea2 h1 h2) (by show (2 : Nat) ≤ 100000; decide))).imp fun v H1 e ⟨a, ev, ha⟩ => ev ▸ Dp.tup (st_of ha) (.cons (Dp.ex e p1) (.cons (Dp.ex e p2) .nil))
theorem ok_NoCharacters_eq (T : Wk h0 K mg base) : EqK PP w K mg base 1 (ma K (ga K "NoCharacters") "__eq__") ["self", "other"] (sp_No_eq K (ga K "NoCharacters")) := by
  obtain ⟨fd, F⟩ := f_NoCharacters_eq T
  refine ⟨fd, F.bindsN (fun _ _ _ _ _ _ us hl => match us, hl with | [_, _], _ => rfl), F.ok sc_NoCharacters_eq (fun vs H Q E h => ?_) (fun cdv A outer s H vs Q E hr h => ⟨_, PSs.nox (pss_one (ps_ret ((pe_and (pe_callB (call_isi1 (K := K) rfl) (by rfl) (m_isinstance T) boot_isinstance (pa_cons (pv 1) (pa_cons (pe_glob (v := .ref (ga K "NoCharacters")) (by rfl) (g_NoCharacters T) rfl) pa_nil))) (pe_one (pe_cmpR (op_eqD (hu64 hr)) (pe_tup (pa_cons (pe_fld (pv 0) rfl) (pa_cons (pe_fld (pv 0) rfl) pa_nil))) (pe_tup (pa_cons (pe_fld (pv 1) rfl) (pa_cons (pe_fld (pv 1) rfl) pa_nil))) (nomark _))))))), ?_⟩)⟩
  · obtain ⟨x, y, dx, dy, v1, v2, u1, u2, d1, d2, e1, e2, rfl, _⟩ := h; rfl
  · obtain ⟨x, y, dx, dy, v1, v2, u1, u2, d1, d2, e1, e2, rfl, hx, hy, p1, p2, p3, p4, s1, s2, hQ⟩ := h
    exact s_ret (v := .bl (true && PyData.eqv (.tuple [d1, d2]) (.tuple [e1, e2]))) (ev_andV (ev_isi (ev_var rfl) (.own _) (InsC.ty (insC T (x := "NoCharacters") (by decide)) hy) (kit T (q := (.inr "NoCharacters", .inr "NoCharacters", true)) (by decide)))
      fun _ => ep_eqD (ep_pair (ev_fld (ev_var rfl) hx (c_NoCharacters T) (n_NoCharacters_why T) rfl) (ev_fld (ev_var rfl) hx (c_NoCharacters T) (n_NoCharacters_index T) rfl) p1 p2) (ep_pair (ev_fld (ev_var rfl) hy (c_NoCharacters T) (n_NoCharacters_why T) rfl) (ev_fld (ev_var rfl) hy (c_NoCharacters T) (n_NoCharacters_index T) rfl) p3 p4) s1 s2) hQ
end
end K42
set_option maxHeartbeats 0
namespace K42
open PySem PySem.Spec PyProof.Rows L2 He TC Evl
def chBreach (ns : List Int) : Option (Str × Int) :=
  if (ns.length == 0 || !(decide (1 ≤ ns.getD 0 0) && decide (ns.getD 0 0 ≤ 60))) = true then some ("first", 0)
  else if 5 < ns.length then some ("long", 5)
  else match fst (fun i => decide (ns.getD i 0 ≤ ns.getD (i - 1) 0)) 1 (ns.length - 1) with
    | some i => some ("rises", (i : Nat))
    | none => match fst (fun i => decide (400 < ns.getD i 0)) 0 ns.length with
      | some i => some ("great", (i : Nat))
      | none => match fst (fun i => (shares ns).getD i 0 == (shares ns).getD (i - 1) 0) 1 (ns.length - 1) with
        | some i => some ("shares", (i : Nat))
        | none => if (shares ns).getD (ns.length - 1) 0 = 1 then none else some ("end", (ns.length : Int) - 1)
def brD : Option (Str × Int) → PyData
  | none => .none
  | some (s, i) => .tuple [.str s, .int i]
section
variable {w : World} {h0 base : Heap} {K : PySem.W.Frag} {mg : Str → Option Value}
theorem s_retBr {σ : L2.St} {H : Hp} {D : Ends} {te : TE} {s : Str} {i : Int} (h : Ev te σ H (.int i)) (k : ∀ v H1, Ex H H1 → Dp K H1 v (brD (some (s, i))) → D.rt v H1) : tRet (tTup (tCons (tC (.str s)) (tCons te tNil))) D σ H :=
  s_retP (ep_pair (d1 := .str s) (d2 := .int i) ev_c h (.str s) (.int i)) k
def sp_characters_breach (K : PySem.W.Frag) : Sp := fun vs H Q _ => ∃ (b : Bool) (a : Addr) (ns : List Int), vs = [.ref a] ∧ SqB K H b a (ns.map V.int) ∧ ns.length ≤ 40000 ∧ ∀ v H', Ex H H' → Dp K H' v (brD (chBreach ns)) → Q v H'
theorem ok_characters_breach (T : Wk h0 K mg base) : ClC CX0 PP w K mg base 2 "characters_breach" ["row"] (sp_characters_breach K) := by
  obtain ⟨fd, F⟩ := f_characters_breach T
  refine ⟨_, fd, g_characters_breach T, F.kp, F.bindsN (fun _ _ _ _ _ _ us hl => match us, hl with | [_], _ => rfl), F.ok sc_characters_breach (fun vs H Q E h => ?_) (fun cdv A outer s H vs Q E hr h => ⟨_, PSs.nox (pss_cons (ps_if (PW.pt (pw_or (pt_cmpR (op_eq) (pe_callB (call_lenK (K := K) rfl) (by rfl) (m_len T) boot_len (pa_cons (pv 0) pa_nil)) (pe_int) (nomark _)) (pw_or1 (pt_not (pt_chain op_le op_le (pe_int) (pe_ix (ix_seqK (K := K) rfl) (pv 0) (pe_int) (fun _ _ => rfl)) (pe_gcI (by rfl) (i_MOST_FIRST T))))))) (pss_one (ps_ret (pe_tup (pa_cons (pe_str) (pa_cons (pe_int) pa_nil))))) pss_nil) (pss_cons (ps_if (pt_cmpR (op_gt) (pe_callB (call_lenK (K := K) rfl) (by rfl) (m_len T) boot_len (pa_cons (pv 0) pa_nil)) (pe_gcI (by rfl) (i_MOST_LENGTH T)) (nomark _)) (pss_one (ps_ret (pe_tup (pa_cons (pe_str) (pa_cons (pe_gcI (by rfl) (i_MOST_LENGTH T)) pa_nil))))) pss_nil) (pss_cons (ps_for PassesOwn.never rfl (pi_range2 (by rfl) (m_range T) (pa_cons (pe_int) (pa_cons (pe_callB (call_lenK (K := K) rfl) (by rfl) (m_len T) boot_len (pa_cons (pv 0) pa_nil)) pa_nil))) (pg_name (i := 1) sc_characters_breach.nd rfl (Or.inl rfl)) (pss_one (ps_if (pt_cmpR (op_le) (pe_ix (ix_seqK (K := K) rfl) (pv 0) (pv 1) (fun _ _ => rfl)) (pe_ix (ix_seqK (K := K) rfl) (pv 0) (pe_op op_sub (pv 1) (pe_int)) (fun _ _ => rfl)) (nomark _)) (pss_one (ps_ret (pe_tup (pa_cons (pe_str) (pa_cons (pv 1) pa_nil))))) pss_nil))) (pss_cons (ps_for PassesOwn.never rfl (pi_enumA (by rfl) (m_enumerate T) (pa_cons (pv 0) pa_nil)) (pg_tup rfl (pgs_cons (pg_name (i := 1) sc_characters_breach.nd rfl (Or.inl rfl)) (pgs_cons (pg_name (i := 2) sc_characters_breach.nd rfl (Or.inl rfl)) pgs_nil))) (pss_one (ps_if (pt_cmpR (op_gt) (pv 2) (pe_gcI (by rfl) (i_MOST_ITEM T)) (nomark _)) (pss_one (ps_ret (pe_tup (pa_cons (pe_str) (pa_cons (pv 1) pa_nil))))) pss_nil))) (pss_cons (ps_set (i := 3) sc_characters_breach.nd rfl (Or.inl rfl) (pe_cl (ok_shares_of T) hr (by decide) (by rfl) (pa_cons (pv 0) pa_nil))) (pss_cons (ps_for PassesOwn.never rfl (pi_range2 (by rfl) (m_range T) (pa_cons (pe_int) (pa_cons (pe_callB (call_lenK (K := K) rfl) (by rfl) (m_len T) boot_len (pa_cons (pv 0) pa_nil)) pa_nil))) (pg_name (i := 1) sc_characters_breach.nd rfl (Or.inl rfl)) (pss_one (ps_if (pt_cmpR (op_eq) (pe_ix (ix_seqK (K := K) rfl) (pv 3) (pv 1) (fun _ _ => rfl)) (pe_ix (ix_seqK (K := K) rfl) (pv 3) (pe_op op_sub (pv 1) (pe_int)) (fun _ _ => rfl)) (nomark _)) (pss_one (ps_ret (pe_tup (pa_cons (pe_str) (pa_cons (pv 1) pa_nil))))) pss_nil))) (pss_one (ps_ret (pe_ifExp (pt_cmpR (op_eq) (pe_ix (ix_seqK (K := K) rfl) (pv 3) (pe_un un_neg (pe_int)) (fun _ _ => rfl)) (pe_int) (nomark _)) (pe_non) (pe_tup (pa_cons (pe_str) (pa_cons (pe_op op_sub (pe_callB (call_lenK (K := K) rfl) (by rfl) (m_len T) boot_len (pa_cons (pv 0) pa_nil)) (pe_int)) pa_nil)))))))))))), ?_⟩)⟩
  · obtain ⟨b, a, ns, rfl, _⟩ := h; rfl
  · obtain ⟨b, a, ns, rfl, sq, hl, hQ⟩ := h
    have hlen : (ns.map V.int).length = ns.length := List.length_map ..
    have lenE : ∀ {σ : L2.St} {te : TE} {H1 : Hp}, Ex H H1 → Ev te σ H1 (.ref a) → Ev (tCB (rLenA K) (tCons te tNil)) σ H1 (.int (ns.length : Int)) := fun {σ te H1} e h => ev_is (ev_lenA h (sq.ex e)) (by rw [hlen])
    have item : ∀ {σ : L2.St} {te ti : TE} {H1 : Hp} {i : Nat}, Ex H H1 → i < ns.length → Ev te σ H1 (.ref a) → Ev ti σ H1 (.int (i : Int)) → Ev (tOp (rIxA K) te ti) σ H1 (.int (ns.getD i 0)) := fun {σ te ti H1 i} e hi h h2 => ev_ixA h h2 (sq.ex e) (atI_int hi)
    refine q_when (b := ns.length == 0 || !(decide (1 ≤ ns.getD 0 0) && decide (ns.getD 0 0 ≤ 60))) ?_ (fun hb H1 e1 => ?_) (fun hb H1 e1 => ?_)
    · have e0 : (ns.length == 0) = decide (V.int (ns.length : Int) = V.int 0) := by
        rw [dec_int]
        by_cases h : ns.length = 0
        · rw [h]; rfl
        · have h1 : (ns.length == 0) = false := beq_eq_false_iff_ne.mpr h
          have h2 : ((ns.length : Int) == 0) = false := beq_eq_false_iff_ne.mpr (by omega)
          rw [h1, h2]
      rw [e0]
      refine et_or (et_test (ev_op (lenE (Ex.refl H) (ev_var rfl)) ev_c (rv_eq rfl))) fun hz => et_not (et_test (ev_chain ev_c (item (i := 0) (Ex.refl H) ?_ (ev_var rfl) ev_c) ev_c))
      have : V.int (ns.length : Int) ≠ V.int 0 := of_decide_eq_false hz
      have h2 : (ns.length : Int) ≠ 0 := fun z => this (by rw [z])
      omega
    · exact s_retBr ev_c fun v H2 e2 hv => hQ v H2 (e1.trans e2) (by unfold chBreach; rw [if_pos hb]; exact hv)
    have u1 : chBreach ns = (if 5 < ns.length then some (("long" : Str), (5 : Int))
  else match fst (fun i => decide (ns.getD i 0 ≤ ns.getD (i - 1) 0)) 1 (ns.length - 1) with
    | some i => some ("rises", (i : Nat))
    | none => match fst (fun i => decide (400 < ns.getD i 0)) 0 ns.length with
      | some i => some ("great", (i : Nat))
      | none => match fst (fun i => (shares ns).getD i 0 == (shares ns).getD (i - 1) 0) 1 (ns.length - 1) with
        | some i => some ("shares", (i : Nat))
        | none => if (shares ns).getD (ns.length - 1) 0 = 1 then (none : Option (Str × Int)) else some (("end" : Str), (ns.length : Int) - 1)) := by
      unfold chBreach; rw [if_neg (by rw [hb]; exact Bool.false_ne_true)]
    have hpos : 0 < ns.length := by
      rcases Nat.eq_zero_or_pos ns.length with h | h
      · rw [h] at hb; cases hb
      · exact h
    refine q_when (b := decide ((5 : Int) < (ns.length : Int))) (et_test (ev_op (lenE e1 (ev_var rfl)) ev_c rv_I0)) (fun hb2 H2 e2 => ?_) (fun hb2 H2 e2 => ?_)
    · have h5 : 5 < ns.length := by have := of_decide_eq_true hb2; omega
      exact s_retBr ev_c fun v H3 e3 hv => hQ v H3 ((e1.trans e2).trans e3) (by rw [u1, if_pos h5]; exact hv)
    have n5 : ¬ 5 < ns.length := by have := of_decide_eq_false hb2; omega
    rw [if_neg n5] at u1
    have E2 := e1.trans e2
    have prev : ∀ {σ : L2.St} {te : TE} {H1 : Hp} {i : Nat}, 1 ≤ i → Ev te σ H1 (.int (i : Int)) → Ev (tOp (rI0 fun i j => .int (i - j)) te (tC (.int 1))) σ H1 (.int ((i - 1 : Nat) : Int)) := fun {σ te H1 i} h1 h => ev_is (ev_op h ev_c rv_I0) (by congr 1; omega)
    refine q_firstR (lo := 1) (n := ns.length) (p := fun i => decide (ns.getD i 0 ≤ ns.getD (i - 1) 0)) (ea2 ev_c (lenE E2 (ev_var rfl))) (by decide) (by omega) (fun i H3 e3 h1 h2 => ?_) (fun i H3 D' hD e3 h1 h2 hf => ?_) (fun σ' H3 e3 hσ hf => ?_)
    · exact et_test (ev_op (item (E2.trans e3) h2 (ev_var rfl) (ev_var rfl)) (item (E2.trans e3) (by omega) (ev_var rfl) (prev h1 (ev_var rfl))) rv_I0)
    · exact s_retBr (ev_var rfl) fun v H4 e4 hv => by rw [hD]; exact hQ v H4 ((E2.trans e3).trans e4) (by rw [u1, hf]; exact hv)
    rw [hf] at u1
    have hv0 : σ'[0]? = some (some (.ref a)) := hσ.get (by decide)
    have E3 := E2.trans e3
    have s2 : ∀ {u v : Option V}, ((σ'.set 1 u).set 2 v)[2]? = some v := fun {u v} => by
      rcases hσ with rfl | ⟨z, rfl⟩ <;> rfl
    have s1 : ∀ {u v : Option V}, ((σ'.set 1 u).set 2 v)[1]? = some u := fun {u v} => by
      rcases hσ with rfl | ⟨z, rfl⟩ <;> rfl
    refine q_firstE (b := b) (a := a) (xs := ns.map V.int) (p := fun i => decide (400 < ns.getD i 0)) (ea1 (ev_var hv0)) (sq.ex E3) (fun k x H4 e4 hx => ?_) (fun k x H4 D' hD e4 hx hf => ?_) (fun σ'' H4 e4 hσ2 hf => ?_) (by decide)
    · rw [List.getElem?_map] at hx
      cases hn : ns[k]? with
      | none => rw [hn] at hx; cases hx
      | some n =>
        rw [hn] at hx
        cases hx
        have e5 : ns.getD k 0 = n := by rw [List.getD_eq_getElem?_getD, hn]; rfl
        rw [e5]
        exact et_test (ev_op (ev_var s2) ev_c rv_I0)
    · rw [hlen] at hf
      exact s_retBr (ev_var s1) fun v H5 e5 hv => by rw [hD]; exact hQ v H5 ((E3.trans e4).trans e5) (by rw [u1, hf]; exact hv)
    rw [hlen] at hf
    rw [hf] at u1
    have E4 := E3.trans e4
    have hv1 : ∃ x1 x2, σ'' = [some (.ref a), x1, x2, none] := by
      rcases hσ with rfl | ⟨z, rfl⟩ <;> rcases hσ2 with rfl | ⟨u, v, rfl⟩ <;> exact ⟨_, _, rfl⟩
    obtain ⟨x1, x2, rfl⟩ := hv1
    refine q_asgL (el_shares (ev_var rfl) (sq.ex E4) hl) fun l H5 hlf e5 hsh => ?_
    have E5 := E4.trans e5
    have slen : (shares ns).length = ns.length := shGo_len ns 0
    have shi : ∀ {σ : L2.St} {te ti : TE} {H1 : Hp} {i : Nat}, Ex H5 H1 → i < ns.length → Ev te σ H1 (.ref l) → Ev ti σ H1 (.int (i : Int)) → Ev (tOp (rIxA K) te ti) σ H1 (.int ((shares ns).getD i 0)) := fun {σ te ti H1 i} e hi h h2 => ev_ixA h h2 (SqB.l (sq_of (e l _ hsh))) (atI_int (by omega))
    refine q_firstR (lo := 1) (n := ns.length) (p := fun i => (shares ns).getD i 0 == (shares ns).getD (i - 1) 0) (ea2 ev_c (lenE E5 (ev_var rfl))) (by decide) (by omega) (fun i H6 e6 h1 h2 => ?_) (fun i H6 D' hD e6 h1 h2 hf => ?_) (fun σ3 H6 e6 hσ3 hf => ?_)
    · have hd := dec_int (i := (shares ns).getD i 0) (j := (shares ns).getD (i - 1) 0)
      rw [← hd]
      exact et_test (ev_op (shi e6 h2 (ev_var rfl) (ev_var rfl)) (shi e6 (by omega) (ev_var rfl) (prev h1 (ev_var rfl))) (rv_eq rfl))
    · exact s_retBr (ev_var rfl) fun v H7 e7 hv => by rw [hD]; exact hQ v H7 ((E5.trans e6).trans e7) (by rw [u1, hf]; exact hv)
    rw [hf] at u1
    have hl3 : σ3[3]? = some (some (.ref l)) := hσ3.get (by decide)
    have ha3 : σ3[0]? = some (some (.ref a)) := hσ3.get (by decide)
    have E6 := E5.trans e6
    have last : Ev (tOp (rIxA K) (tVar 3) (tUn (rU fun i => .int (-i)) (tC (.int 1)))) σ3 H6 (.int ((shares ns).getD (ns.length - 1) 0)) := ev_ixA (ev_var hl3) (ev_un ev_c ru_neg) (SqB.l (sq_of (e6 l _ hsh))) (atI_m1 (by
      rw [List.length_map, slen, List.getElem?_map, List.getD_eq_getElem?_getD, List.getElem?_eq_getElem (by omega)]; rfl))
    refine s_retP (P := fun v H' => Dp K H' v (brD (chBreach ns))) (ep_if (et_test (ev_op last ev_c (rv_eq rfl))) (fun hy => ?_) (fun hn => ?_)) fun v H7 e7 hv => hQ v H7 (E6.trans e7) hv
    · have h1 : (shares ns).getD (ns.length - 1) 0 = 1 := by have := of_decide_eq_true hy; injection this
      rw [u1, if_pos h1]
      exact (Ev.p ev_c).imp fun v H' _ e => e ▸ Dp.non
    · have h1 : ¬ (shares ns).getD (ns.length - 1) 0 = 1 := fun z => by have := of_decide_eq_false hn; exact this (by rw [z])
      rw [u1, if_neg h1]
      exact ep_pair (d1 := .str "end") (d2 := .int ((ns.length : Int) - 1)) ev_c (ev_op (lenE E6 (ev_var ha3)) ev_c rv_I0) (.str "end") (.int _)
end
end K42
set_option maxHeartbeats 0
namespace K42
open PySem PySem.Spec PyProof.Rows L2 He TC Evl
section
variable {w : World} {h0 base : Heap} {K : PySem.W.Frag} {mg : Str → Option Value}
/-- the error X(v), its field f -/
def Err (K : PySem.W.Frag) (x f : Str) (E : XK) (H : Hp) (P : V → Hp → Prop) : Prop := ∀ H' dd v, Ex H H' → P v H' → H' dd = some (.xd [(f, v)]) → E (.ref (ga K x)) (some dd) H'
theorem Err.ex {x f : Str} {E : XK} {H H' : Hp} {P : V → Hp → Prop} (e : Ex H H') (h : Err K x f E H P) : Err K x f E H' P := fun H2 dd v e2 p hd => h H2 dd v (e.trans e2) p hd
def sp_need_integers (K : PySem.W.Frag) : Sp := fun vs H Q E => ∃ x d, vs = [x] ∧ Dp K H x d ∧ (itemsD d).length ≤ 40000 ∧ (isInts d = true → ∀ H', Ex H H' → Q .non H') ∧ (isInts d = false → Err K "BadRow" "value" E H (fun v _ => v = x))
theorem ok_need_integers (T : Wk h0 K mg base) : ClC (L2.CX PP w) PP w K mg base 3 "need_integers" ["row"] (sp_need_integers K) := by
  obtain ⟨fd, F⟩ := f_need_integers T
  refine ⟨_, fd, g_need_integers T, F.kp, F.bindsN (fun _ _ _ _ _ _ us hl => match us, hl with | [_], _ => rfl), F.ok sc_need_integers (fun vs H Q E h => ?_) (fun cdv A outer s H vs Q E hr h => ⟨_, (pss_one (ps_if (pt_not (pt_val (pe_cl (ok_is_integers T) hr (by decide) (by rfl) (pa_cons (pv 0) pa_nil)))) (pss_one (ps_raiseEr rfl (er_BadRow T) hr (m_super T) (g_BadRow T) (takes_of rfl rfl rfl rfl) (pa_cons (pv 0) pa_nil))) pss_nil)), ?_⟩)⟩
  · obtain ⟨x, d, rfl, _⟩ := h; rfl
  · obtain ⟨x, d, rfl, hd, hl, hQ, hE⟩ := h
    refine s_when (et_not (et_B (ev_is_integers (ev_var rfl) hd hl))) (fun hb H1 e1 => ?_) (fun hb H1 e1 => ?_)
    · have hn : isInts d = false := by simpa using hb
      exact s_raiseEr (ea1 (ev_var rfl)) fun H2 dd e2 hdd => hE hn H2 dd x (e1.trans e2) rfl hdd
    · have hy : isInts d = true := by simpa using hb
      exact hQ hy H1 e1
/-- a character, or why there is none -/
def ChA (K : PySem.W.Frag) (v : V) (H : Hp) : Option (Str × Int) → Prop
  | none => ∃ x dx fs, v = .ref x ∧ H x = some (.ins (ga K "Characters") dx fs)
  | some (s, i) => ∃ x dx, v = .ref x ∧ H x = some (.ins (ga K "NoCharacters") dx [("why", .str s), ("index", .int i)])
theorem ChA.ex {v : V} {H H' : Hp} (e : Ex H H') : ∀ {o : Option (Str × Int)}, ChA K v H o → ChA K v H' o
  | none, ⟨x, dx, fs, h1, h2⟩ => ⟨x, dx, fs, h1, e _ _ h2⟩
  | some (s, i), ⟨x, dx, h1, h2⟩ => ⟨x, dx, h1, e _ _ h2⟩
def sp_settled_character (K : PySem.W.Frag) : Sp := fun vs H Q _ => ∃ (b : Bool) (a : Addr) (ns : List Int), vs = [.ref a] ∧ SqB K H b a (ns.map V.int) ∧ ns.length ≤ 40000 ∧ ∀ v H', Ex H H' → ChA K v H' (chBreach ns) → Q v H'
theorem ok_settled_character (T : Wk h0 K mg base) : ClC CX0 PP w K mg base 6 "settled_character" ["row"] (sp_settled_character K) := by
  obtain ⟨fd, F⟩ := f_settled_character T
  refine ⟨_, fd, g_settled_character T, F.kp, F.bindsN (fun _ _ _ _ _ _ us hl => match us, hl with | [_], _ => rfl), F.ok sc_settled_character (fun vs H Q E h => ?_) (fun cdv A outer s H vs Q E hr h => ⟨_, PSs.nox (pss_cons (ps_set (i := 1) sc_settled_character.nd rfl (Or.inl rfl) (pe_cl (ok_characters_breach T) hr (by decide) (by rfl) (pa_cons (pv 0) pa_nil))) (pss_one (ps_ret (pe_ifExp (pt_cmpR (op_isN) (pv 1) (pe_non) (nomark _)) (pe_mkc (ok_Characters_init T) hr (by decide) (by rfl) (pa_cons (pe_cl (ok_shares_of T) hr (by decide) (by rfl) (pa_cons (pv 0) pa_nil)) pa_nil)) (pe_mkc (ok_NoCharacters_init T) hr (by decide) (by rfl) (pa_cons (pe_ix (ix_seqK (K := K) rfl) (pv 1) (pe_int) (fun _ _ => rfl)) (pa_cons (pe_ix (ix_seqK (K := K) rfl) (pv 1) (pe_int) (fun _ _ => rfl)) pa_nil))))))), ?_⟩)⟩
  · obtain ⟨b, a, ns, rfl, _⟩ := h; rfl
  · obtain ⟨b, a, ns, rfl, sq, hl, hQ⟩ := h
    refine q_asgP (P := fun v H1 => Dp K H1 v (brD (chBreach ns))) (ep_call (ea1 (ev_var rfl)) fun H1 e Q q E => ⟨b, a, ns, rfl, sq.ex e, hl, q⟩) fun bv H1 e1 hb => ?_
    refine s_retP (P := fun v H' => ChA K v H' (chBreach ns)) ?_ fun v H2 e2 hv => hQ v H2 (e1.trans e2) hv
    cases hc : chBreach ns with
    | none =>
      rw [hc] at hb
      cases hb
      refine ep_if (b := true) (et_test (ev_is (ev_isN (x := .non) (ev_var rfl)) (congrArg V.bl (decide_eq_true rfl)))) (fun _ => ?_) (fun h => by cases h)
      refine (ep_makeP (Pa := fun x H' => ∃ dx fs, H' x = some (.ins (ga K "Characters") dx fs)) (eap1 (EvL.p (el_shares (ev_var rfl) (sq.ex e1) hl))) fun vs H2 e2 ⟨v, hv, l, hl1, hl2⟩ => ?_).imp fun v H2 _ ⟨x, ev, dx, fs, h⟩ => ⟨x, dx, fs, ev, h⟩
      subst hv hl1
      exact mk_Characters (b := false) (sq_of hl2) (by rw [show (shares ns).length = ns.length from shGo_len ns 0]; exact hl)
    | some p =>
      obtain ⟨s, i⟩ := p
      rw [hc] at hb
      obtain ⟨q, xs, rfl, sqx, hx⟩ := Dp.seq_inv (b := true) hb
      have hxs : xs = [.str s, .int i] := by
        cases hx with
        | cons h1 h2 =>
          cases h1
          cases h2 with
          | cons h3 h4 => cases h3; cases h4; rfl
      subst hxs
      refine ep_if (b := false) (et_test (ev_is (ev_isN (x := .ref q) (ev_var rfl)) (congrArg V.bl (decide_eq_false (fun z => nomatch z))))) (fun h => by cases h) (fun _ => ?_)
      exact (ep_make (ea2 (ev_ixA (i := 0) (ev_var rfl) ev_c sqx (atI_n (i := 0) rfl)) (ev_ixA (i := 1) (ev_var rfl) ev_c sqx (atI_n (i := 1) rfl))) mk_No).imp fun v H2 _ ⟨x, ev, dx, h⟩ => ⟨x, dx, ev, h⟩
theorem items_seq {b : Bool} {ds : List PyData} : itemsD (seqD b ds) = ds := by cases b <;> rfl
theorem isInts_seq {b : Bool} {ns : List Int} : isInts (seqD b (ns.map PyData.int)) = true := by
  unfold isInts
  rw [items_seq, List.all_map]
  have h1 : isRowD (seqD b (ns.map PyData.int)) = true := by cases b <;> rfl
  rw [h1, Bool.true_and]
  exact List.all_eq_true.mpr fun _ _ => rfl
def sp_need_character (K : PySem.W.Frag) : Sp := fun vs H Q E => ∃ x d, vs = [x] ∧ Dp K H x d ∧ (itemsD d).length ≤ 40000 ∧ (isInts d = false → Err K "BadRow" "value" E H (fun v _ => v = x)) ∧
  (∀ (b : Bool) (ns : List Int), d = seqD b (ns.map PyData.int) → (chBreach ns = none → ∀ v H', Ex H H' → Dp K H' v (.tuple (ns.map PyData.int)) → Q v H') ∧ ∀ p, chBreach ns = some p → Err K "BadCharacters" "answer" E H (fun v H' => ChA K v H' (some p)))
theorem ok_need_character (T : Wk h0 K mg base) : ClC (L2.CX PP w) PP w K mg base 7 "need_character" ["row"] (sp_need_character K) := by
  obtain ⟨fd, F⟩ := f_need_character T
  refine ⟨_, fd, g_need_character T, F.kp, F.bindsN (fun _ _ _ _ _ _ us hl => match us, hl with | [_], _ => rfl), F.ok sc_need_character (fun vs H Q E h => ?_) (fun cdv A outer s H vs Q E hr h => ⟨_, (pss_cons (ps_expr (pe_clX (ok_need_integers T) hr (by decide) (passes_call (takes_of rfl rfl rfl rfl) (fun _ _ _ _ h => h)) (by rfl) (pa_cons (pv 0) pa_nil))) (pss_cons (ps_set (i := 1) sc_need_character.nd rfl (Or.inl rfl) (pe_cl (ok_settled_character T) hr (by decide) (by rfl) (pa_cons (pv 0) pa_nil))) (pss_cons (ps_if (pt_val (pe_callB (call_isi1 (K := K) rfl) (by rfl) (m_isinstance T) boot_isinstance (pa_cons (pv 1) (pa_cons (pe_glob (v := .ref (ga K "NoCharacters")) (by rfl) (g_NoCharacters T) rfl) pa_nil)))) (pss_one (ps_raiseEr rfl (er_BadCharacters T) hr (m_super T) (g_BadCharacters T) (takes_of rfl rfl rfl rfl) (pa_cons (pv 1) pa_nil))) pss_nil) (pss_one (ps_ret (pe_callTy call_tuple_of (by rfl) (m_tuple T) (by decide +kernel) (pa_cons (pv 0) pa_nil))))))), ?_⟩)⟩
  · obtain ⟨x, d, rfl, _⟩ := h; rfl
  · obtain ⟨x, d, rfl, hd, hl, hE, hQ⟩ := h
    refine q_dropCall (ea1 (ev_var rfl)) fun H1 e1 => ⟨x, d, rfl, Dp.ex e1 hd, hl, fun hy H2 e2 => ?_, fun hn => (hE hn).ex e1⟩
    obtain ⟨b, ns, rfl⟩ := isInts_inv hy
    obtain ⟨a, xs, rfl, sq, da⟩ := Dp.seq_inv hd
    have hxs := DpAll.ints_inv da
    subst hxs
    rw [items_seq, List.length_map] at hl
    obtain ⟨q1, q2⟩ := hQ b ns rfl
    refine q_asgP (P := fun v H' => ChA K v H' (chBreach ns)) (ep_call (ea1 (ev_var rfl)) fun H3 e3 Q q E => ⟨b, a, ns, rfl, sq.ex ((e1.trans e2).trans e3), hl, q⟩) fun v H3 e3 hv => ?_
    have E3 := (e1.trans e2).trans e3
    cases hc : chBreach ns with
    | none =>
      rw [hc] at hv
      obtain ⟨y, dx, fs, rfl, hy⟩ := hv
      refine q_when (b := false) (et_B (ev_isi (ev_var rfl) (.own _) (InsC.ty (insC T (x := "Characters") (by decide)) hy) (kit T (q := (.inr "Characters", .inr "NoCharacters", false)) (by decide)))) (fun h => by cases h) (fun _ H4 e4 => ?_)
      refine s_retP (P := fun v H' => Dp K H' v (.tuple (ns.map PyData.int))) ((ep_tupleOf (b := b) (R := fun xs _ => xs = ns.map V.int) ((Ev.p (ev_var rfl)).imp fun v H1 e ev => ⟨a, _, ev, sq.ex ((E3.trans e4).trans e), rfl⟩) (fun _ _ _ _ z => z)).imp fun v H1 _ ⟨p, xs, e, hs, hx⟩ => ?_) fun v H5 e5 hv => q1 hc v H5 ((E3.trans e4).trans e5) hv
      subst e hx
      exact Dp.tup hs DpAll.ints
    | some p =>
      rw [hc] at hv
      have hv' := hv
      obtain ⟨y, dx, rfl, hy⟩ := hv
      refine q_when (b := true) (et_B (ev_isi (ev_var rfl) (.own _) (InsC.ty (insC T (x := "NoCharacters") (by decide)) hy) (kit T (q := (.inr "NoCharacters", .inr "NoCharacters", true)) (by decide)))) (fun _ H4 e4 => ?_) (fun h => by cases h)
      exact s_raiseEr (ea1 (ev_var rfl)) fun H5 dd e5 hdd => q2 p hc H5 dd _ ((E3.trans e4).trans e5) (ChA.ex (e4.trans e5) hv') hdd
end
end K42
set_option maxHeartbeats 0
namespace K42
open PySem PySem.Spec PyProof.Rows L2 He TC Evl
def sS (ns : List Int) (k : Nat) : Int := (shares ns).getD k 0
def sN (ns : List Int) (k : Nat) : Int := ns.getD k 0
section
variable {w : World} {h0 base : Heap} {K : PySem.W.Frag} {mg : Str → Option Value}
theorem q_parLL {σ : L2.St} {H : Hp} {te tx : TE} {tz : TS} {D : Ends} {i j : Nat} {xs ys : List V} (h : EvL te σ H xs) (h2 : EvL tx σ H ys) (k : ∀ p q H1, H p = none → H q = none → Ex H H1 → H1 p = some (.lst xs) → H1 q = some (.lst ys) → tz D ((σ.set i (some (.ref p))).set j (some (.ref q))) H1) : tSeq (tPar i j (tCons te (tCons tx tNil))) tz D σ H :=
  h H (Ex.refl H) _ fun p H1 hp e h1 => h2 H1 e _ fun q H2 hq e2 h2 => ⟨_, _, rfl, k p q H2 hp (fresh_back e hq) (e.trans e2) (e2 p _ h1) h2⟩
theorem sp_need_ok {H : Hp} {x : V} {b : Bool} {ns : List Int} (hd : Dp K H x (seqD b (ns.map PyData.int))) (hl : ns.length ≤ 40000) (hb : chBreach ns = none) : SpP (sp_need_character K) [x] H (fun v H' => Dp K H' v (.tuple (ns.map PyData.int))) := fun H1 e Q q E =>
  ⟨x, _, rfl, Dp.ex e hd, by rw [items_seq, List.length_map]; exact hl, fun hn => absurd (hn.symm.trans isInts_seq) Bool.false_ne_true, fun b' ns' e' => by
    have e2 : ns' = ns := by
      have h1 := congrArg itemsD e'
      rw [items_seq, items_seq] at h1
      have h2 := congrArg (List.map (fun d => match d with | PyData.int i => i | _ => 0)) h1
      rw [List.map_map, List.map_map] at h2
      have h3 : ((fun d => match d with | PyData.int i => i | _ => 0) ∘ PyData.int) = (id : Int → Int) := rfl
      rw [h3, List.map_id, List.map_id] at h2
      exact h2.symm
    subst e2
    exact ⟨fun _ v H' e3 hv => q v H' e3 hv, fun p hp => by rw [hb] at hp; cases hp⟩⟩
theorem tup_ints_inv {H : Hp} {v : V} {ns : List Int} (h : Dp K H v (.tuple (ns.map PyData.int))) : ∃ a, v = .ref a ∧ SqT K H a (ns.map V.int) := by
  obtain ⟨a, xs, rfl, sq, hx⟩ := Dp.seq_inv (b := true) h
  have := DpAll.ints_inv hx
  subst this
  exact ⟨a, rfl, sq⟩
theorem ints_inj {b b' : Bool} {ns ns' : List Int} (e' : seqD b (ns.map PyData.int) = seqD b' (ns'.map PyData.int)) : ns' = ns := by
  have h1 := congrArg itemsD e'
  rw [items_seq, items_seq] at h1
  have h2 := congrArg (List.map (fun d => match d with | PyData.int i => i | _ => 0)) h1
  rw [List.map_map, List.map_map] at h2
  have h3 : ((fun d => match d with | PyData.int i => i | _ => 0) ∘ PyData.int) = (id : Int → Int) := rfl
  rw [h3, List.map_id, List.map_id] at h2
  exact h2.symm
def rSlB (K : PySem.W.Frag) : V → Option Int → Option Int → Hp → VK → Prop := fun x lo hi H Q => rSlA K x lo hi H Q ∨ rSlL K x lo hi H Q
theorem ep_slB {σ : L2.St} {H : Hp} {te : TE} {b : Bool} {a : Addr} {xs : List V} {lo hi : Option Int} {tl th : TO} (h : Ev te σ H (.ref a)) (h1 : EvO tl σ H lo) (h2 : EvO th σ H hi) (hs : SqB K H b a xs) : EvP (tSl (rSlB K) te tl th) σ H (fun v H1 => ∃ p, v = .ref p ∧ SqB K H1 b p (cutV xs lo hi)) := fun H1 e Q q =>
  h H1 e _ fun H2 e2 => h1 H2 (e.trans e2) _ fun H3 e3 => h2 H3 ((e.trans e2).trans e3) _ fun H4 e4 => by
    have E4 := ((e.trans e2).trans e3).trans e4
    have hs4 := hs.ex E4
    cases b with
    | true =>
      refine .inl ⟨a, xs, rfl, hs4, fun hw => q _ H4 ((e2.trans e3).trans e4) ⟨a, rfl, ?_⟩, fun _ p hp => q _ _ (((e2.trans e3).trans e4).trans (Ex.new hp)) ⟨p, rfl, st_of upd_same⟩⟩
      have e5 : cutV xs lo hi = xs := by
        unfold cutV
        rw [hw.1, hw.2, Nat.sub_zero, List.drop_zero, List.take_length]
      rw [e5]
      exact hs4
    | false => exact .inr ⟨a, xs, rfl, hs4, fun p hp => q _ _ (((e2.trans e3).trans e4).trans (Ex.new hp)) ⟨p, rfl, sq_of upd_same⟩⟩
theorem el_listB {σ : L2.St} {H : Hp} {te : TE} {b : Bool} {xs : List V} (h : EvP te σ H (fun v H1 => ∃ p, v = .ref p ∧ SqB K H1 b p xs)) : EvL (tCB (fun xs H Q => ∃ p ys, xs = [.ref p] ∧ (SqL K H p ys ∨ SqT K H p ys) ∧ ∀ l, H l = none → Q (.ref l) (upd H l (.lst ys))) (tCons te tNil)) σ H xs := fun H1 e Q q =>
  h H1 e _ fun v H2 e2 ⟨p, ev, hp⟩ => by
    subst ev
    exact ⟨p, xs, rfl, hp.or, fun l hl => q l _ (fresh_back e2 hl) (e2.trans (Ex.new hl)) upd_same⟩
end
theorem shGo_in {m : Nat} : ∀ (ns : List Int) (h : Int), (∀ n ∈ ns, 1 ≤ n ∧ n ≤ (m : Int)) → ∀ x ∈ shGo h ns, 1 ≤ x ∧ x ≤ (m : Int)
  | [], _, _, x, hx => by cases hx
  | n :: r, h, hn, x, hx => by
    obtain ⟨n1, n2⟩ := hn n List.mem_cons_self
    have hx' : x ∈ ((Nat.gcd h.natAbs n.natAbs : Nat) : Int) :: shGo ((Nat.gcd h.natAbs n.natAbs : Nat) : Int) r := hx
    rcases List.mem_cons.mp hx' with rfl | z
    · have g0 : 0 < Nat.gcd h.natAbs n.natAbs := Nat.gcd_pos_of_pos_right _ (by omega)
      have g1 : Nat.gcd h.natAbs n.natAbs ≤ n.natAbs := Nat.gcd_le_right _ (by omega)
      omega
    · exact shGo_in r _ (fun n' h' => hn n' (List.mem_cons_of_mem _ h')) x z
/-- a row that need_ascending lets pass -/
structure AscRow (ns : List Int) : Prop where
  len : ns.length ≤ 5
  pos : 0 < ns.length
  lo : ∀ k, k < ns.length → 1 ≤ sN ns k
  hi : ∀ k, k < ns.length → sN ns k ≤ 3000
theorem AscRow.mem {ns : List Int} (h : AscRow ns) : ∀ n ∈ ns, 1 ≤ n ∧ n ≤ ((3000 : Nat) : Int) := fun n hn => by
  obtain ⟨k, hk, e⟩ := List.mem_iff_getElem.mp hn
  have e' : sN ns k = n := by show ns.getD k 0 = n; rw [List.getD_eq_getElem?_getD, List.getElem?_eq_getElem hk, e]; rfl
  have h1 := h.lo k hk
  have h2 := h.hi k hk
  rw [e'] at h1 h2
  exact ⟨h1, h2⟩
theorem AscRow.sh {ns : List Int} (h : AscRow ns) {k : Nat} (hk : k < ns.length) : 1 ≤ sS ns k ∧ sS ns k ≤ ((3000 : Nat) : Int) := by
  have hk' : k < (shares ns).length := by rw [show (shares ns).length = ns.length from shGo_len ns 0]; exact hk
  have e : sS ns k = (shares ns)[k] := by show (shares ns).getD k 0 = _; rw [List.getD_eq_getElem?_getD, List.getElem?_eq_getElem hk']; rfl
  rw [e]
  exact shGo_in ns 0 h.mem _ (List.getElem_mem hk')
section
variable {K : PySem.W.Frag} {σ : L2.St} {H : Hp} {te tx : TE}
theorem el_slN {tl th : TO} {xs : List V} {lo hi : Option Int} (h : EvL te σ H xs) (h1 : EvO tl σ H lo) (h2 : EvO th σ H hi) : EvL (tSl (rSlL K) te tl th) σ H (cutV xs lo hi) := fun H1 e Q q =>
  h H1 e _ fun a H2 ha e2 h3 => h1 H2 (e.trans e2) _ fun H3 e3 => h2 H3 ((e.trans e2).trans e3) _ fun H4 e4 => ⟨a, xs, rfl, sq_of (e4 _ _ (e3 _ _ h3)), fun p hp => q p _ (fresh_back ((e2.trans e3).trans e4) hp) (((e2.trans e3).trans e4).trans (Ex.new hp)) upd_same⟩
theorem cut_drop1 {xs : List V} : cutV xs (some 1) none = xs.drop 1 := by
  unfold cutV
  have e1 : HT.sIx xs.length 0 (some 1) = min 1 xs.length := HT.sIx_nat _ _ 1
  rw [HT.sIx_none, e1]
  by_cases h : 1 ≤ xs.length
  · rw [Nat.min_eq_left h, List.take_of_length_le (by rw [List.length_drop]; exact Nat.le_refl _)]
  · rw [Nat.min_eq_right (by omega), List.drop_of_length_le (Nat.le_refl _), List.drop_of_length_le (by omega)]
    simp
end
def intsD (d : PyData) : List Int := (itemsD d).map fun d => match d with | .int i => i | _ => 0
theorem intsD_seq {b : Bool} {ns : List Int} : intsD (seqD b (ns.map PyData.int)) = ns := by
  have h : ∀ ns : List Int, (ns.map PyData.int).map (fun d => match d with | .int i => i | _ => (0 : Int)) = ns := fun ns => by
    rw [List.map_map]
    exact (List.map_congr_left (fun _ _ => rfl)).trans (List.map_id ns)
  cases b <;> exact h ns
theorem ints_inv {K : PySem.W.Frag} {H : Hp} {b : Bool} {x : V} {ns : List Int} (h : Dp K H x (seqD b (ns.map PyData.int))) : ∃ a, x = .ref a ∧ SqB K H b a (ns.map V.int) := by
  obtain ⟨a, xs, rfl, sq, da⟩ := Dp.seq_inv h
  exact ⟨a, rfl, (DpAll.ints_inv da) ▸ sq⟩
theorem at_ints {ns : List Int} {i : Nat} {x : V} (h : (ns.map V.int)[i]? = some x) : ∃ n, ns[i]? = some n ∧ x = .int n := by
  rw [List.getElem?_map] at h
  cases hn : ns[i]? with
  | none => rw [hn] at h; cases h
  | some n => rw [hn] at h; cases h; exact ⟨n, rfl, rfl⟩
theorem sN_at {ns : List Int} {i : Nat} {n : Int} (h : ns[i]? = some n) : sN ns i = n := by show ns.getD i 0 = n; rw [List.getD_eq_getElem?_getD, h]; rfl
theorem shGo_dvd : ∀ (ns : List Int) (h : Int) (k : Nat), k + 1 < ns.length → (shGo h ns).getD (k + 1) 0 ∣ (shGo h ns).getD k 0
  | [], _, _, h => by simp at h
  | [n], _, k, h => by simp at h
  | n :: m :: r, h, 0, _ => by
    show ((Nat.gcd (((Nat.gcd h.natAbs n.natAbs : Nat) : Int)).natAbs m.natAbs : Nat) : Int) ∣ ((Nat.gcd h.natAbs n.natAbs : Nat) : Int)
    rw [Int.natAbs_natCast]
    exact Int.natCast_dvd_natCast.mpr (Nat.gcd_dvd_left _ _)
  | n :: m :: r, h, k + 1, hk => shGo_dvd (m :: r) _ k (by simpa using hk)
theorem shGo_snoc (x : Int) : ∀ (ns : List Int) (h : Int), ∃ y, shGo h (ns ++ [x]) = shGo h ns ++ [y]
  | [], h => ⟨_, rfl⟩
  | n :: r, h => by
    obtain ⟨y, e⟩ := shGo_snoc x r ((Nat.gcd h.natAbs n.natAbs : Nat) : Int)
    exact ⟨y, by show _ :: shGo _ (r ++ [x]) = _ :: shGo _ r ++ [y]; rw [e]; rfl⟩
theorem shGo_next : ∀ (ns : List Int) (h : Int) (k : Nat), k + 1 < ns.length → (shGo h ns).getD (k + 1) 0 = ((Nat.gcd ((shGo h ns).getD k 0).natAbs (ns.getD (k + 1) 0).natAbs : Nat) : Int)
  | [], _, _, h => by simp at h
  | [n], _, k, h => by simp at h
  | n :: m :: r, h, 0, _ => rfl
  | n :: m :: r, h, k + 1, hk => shGo_next (m :: r) _ k (by simpa using hk)
theorem sS_next {ns : List Int} {k : Nat} (hk : k + 1 < ns.length) : sS ns (k + 1) = ((Nat.gcd (sS ns k).natAbs (sN ns (k + 1)).natAbs : Nat) : Int) := shGo_next ns 0 k hk
theorem sS_zero {ns : List Int} (h : 0 < ns.length) : sS ns 0 = ((sN ns 0).natAbs : Int) := by
  cases ns with
  | nil => simp at h
  | cons n r => show ((Nat.gcd (0 : Int).natAbs n.natAbs : Nat) : Int) = ((n.natAbs : Nat) : Int); simp
theorem getD_lt {l : List Int} {x : Int} {k : Nat} (h : k < l.length) : (l ++ [x]).getD k 0 = l.getD k 0 := by
  rw [List.getD_eq_getElem?_getD, List.getD_eq_getElem?_getD, List.getElem?_append_left h]
theorem sN_snoc {ns : List Int} {x : Int} {k : Nat} (h : k < ns.length) : sN (ns ++ [x]) k = sN ns k := getD_lt h
theorem sN_last {ns : List Int} {x : Int} : sN (ns ++ [x]) ns.length = x := by
  show (ns ++ [x]).getD ns.length 0 = x
  rw [List.getD_eq_getElem?_getD]; simp
theorem sS_snoc {ns : List Int} {x : Int} {k : Nat} (h : k < ns.length) : sS (ns ++ [x]) k = sS ns k := by
  obtain ⟨y, e⟩ := shGo_snoc x ns 0
  show (shGo 0 (ns ++ [x])).getD k 0 = (shGo 0 ns).getD k 0
  rw [e]
  exact getD_lt (by rw [shGo_len]; exact h)
/-- a row as it is drawn -/
structure Drawn (ns : List Int) : Prop where
  len : ns.length ≤ 5
  pos : 0 < ns.length
  first : 1 ≤ sN ns 0 ∧ sN ns 0 ≤ 24
  step : ∀ k, k + 1 < ns.length → sN ns k < sN ns (k + 1) ∧ sN ns (k + 1) ≤ sN ns k + 14
  sh : ∀ k, k + 1 < ns.length → ¬ sS ns k ∣ sN ns (k + 1)
theorem Drawn.one {x : Int} (h : 1 ≤ x) (h2 : x ≤ 24) : Drawn [x] := ⟨by simp, by simp, ⟨h, h2⟩, fun k hk => by simp at hk, fun k hk => by simp at hk⟩
theorem Drawn.snoc {ns : List Int} {x : Int} (d : Drawn ns) (hl : ns.length < 5) (h1 : sN ns (ns.length - 1) < x) (h2 : x ≤ sN ns (ns.length - 1) + 14) (h3 : ¬ sS ns (ns.length - 1) ∣ x) : Drawn (ns ++ [x]) := by
  have p := d.pos
  refine ⟨by simp; omega, by simp, ?_, fun k hk => ?_, fun k hk => ?_⟩
  · rw [sN_snoc p]; exact d.first
  · rw [List.length_append] at hk
    have hk' : k + 1 < ns.length + 1 := hk
    by_cases h : k + 1 < ns.length
    · rw [sN_snoc h, sN_snoc (by omega)]; exact d.step k h
    · have e : k + 1 = ns.length := by omega
      have ek : k = ns.length - 1 := by omega
      rw [e, sN_last, sN_snoc (by omega), ek]
      exact ⟨h1, h2⟩
  · rw [List.length_append] at hk
    have hk' : k + 1 < ns.length + 1 := hk
    by_cases h : k + 1 < ns.length
    · rw [sS_snoc (by omega), sN_snoc h]; exact d.sh k h
    · have e : k + 1 = ns.length := by omega
      have ek : k = ns.length - 1 := by omega
      rw [e, sN_last, sS_snoc (by omega), ek]
      exact h3
theorem Drawn.le {ns : List Int} (d : Drawn ns) : ∀ k, k < ns.length → 1 ≤ sN ns k ∧ sN ns k ≤ 24 + 14 * k
  | 0, _ => by have := d.first; omega
  | k + 1, h => by
    have ih := Drawn.le d k (by omega)
    have := d.step k h
    omega
theorem Drawn.asc {ns : List Int} (d : Drawn ns) : AscRow ns := ⟨d.len, d.pos, fun k hk => (d.le k hk).1, fun k hk => by have := d.le k hk; have := d.len; omega⟩
theorem Drawn.bd {ns : List Int} (d : Drawn ns) {k : Nat} (hk : k < ns.length) : 1 ≤ sS ns k ∧ sS ns k ≤ 24 := by
  have h1 := (d.asc.sh hk).1
  refine ⟨h1, ?_⟩
  have : ∀ k, k < ns.length → sS ns k ≤ 24 := fun k => by
    induction k with
    | zero => intro _; rw [sS_zero d.pos]; have := d.first; omega
    | succ k ih =>
      intro hk
      have ih' := ih (by omega)
      have hp := (d.asc.sh (k := k) (by omega)).1
      rw [sS_next hk]
      have := Nat.gcd_le_left (sN ns (k + 1)).natAbs (m := (sS ns k).natAbs) (by omega)
      omega
  exact this k hk
theorem Drawn.ne {ns : List Int} (d : Drawn ns) {k : Nat} (hk : k + 1 < ns.length) : sS ns (k + 1) ≠ sS ns k := fun z => by
  refine d.sh k hk ?_
  rw [← z, sS_next hk]
  exact Int.dvd_natAbs.mp (Int.natCast_dvd_natCast.mpr (Nat.gcd_dvd_right _ _))
theorem Drawn.br {ns : List Int} (d : Drawn ns) (h1 : sS ns (ns.length - 1) = 1) : chBreach ns = none := by
  have p := d.pos
  have l5 := d.len
  unfold chBreach
  have f := d.first
  rw [if_neg (by
    have e0 : (ns.length == 0) = false := by rw [beq_eq_false_iff_ne]; omega
    have e1 : decide (1 ≤ ns.getD 0 0) = true := decide_eq_true f.1
    have e2 : decide (ns.getD 0 0 ≤ 60) = true := decide_eq_true (by have := f.2; show sN ns 0 ≤ 60; omega)
    rw [e0, e1, e2]; decide), if_neg (by omega)]
  have r1 : fst (fun i => decide (ns.getD i 0 ≤ ns.getD (i - 1) 0)) 1 (ns.length - 1) = none := fst_out fun j h2 h3 => decide_eq_false (by
    have := (d.step (j - 1) (by omega)).1
    rw [show j - 1 + 1 = j by omega] at this
    show ¬ sN ns j ≤ sN ns (j - 1)
    omega)
  rw [r1]
  have r2 : fst (fun i => decide (400 < ns.getD i 0)) 0 ns.length = none := fst_out fun j h2 h3 => decide_eq_false (by
    have := d.le j (by omega)
    show ¬ 400 < sN ns j
    omega)
  simp only []
  rw [r2]
  have r3 : fst (fun i => (shares ns).getD i 0 == (shares ns).getD (i - 1) 0) 1 (ns.length - 1) = none := fst_out fun j h2 h3 => by
    have := d.ne (k := j - 1) (by omega)
    rw [show j - 1 + 1 = j by omega] at this
    exact beq_eq_false_iff_ne.mpr this
  simp only []
  rw [r3]
  simp only []
  exact if_pos (show (shares ns).getD (ns.length - 1) 0 = 1 from h1)
theorem sS_dvd {ns : List Int} {j k : Nat} (hk : k < ns.length) (h : j ≤ k) : sS ns k ∣ sS ns j := by
  induction k with
  | zero => have : j = 0 := by omega
            rw [this]; exact Int.dvd_refl _
  | succ k ih =>
    by_cases e : j = k + 1
    · rw [e]; exact Int.dvd_refl _
    · exact Int.dvd_trans (shGo_dvd ns 0 k hk) (ih (by omega) (by omega))
theorem sS_sN {ns : List Int} {k : Nat} (hk : k < ns.length) : sS ns k ∣ sN ns k := by
  cases k with
  | zero => rw [sS_zero hk]; exact Int.natAbs_dvd.mpr (Int.dvd_refl _)
  | succ k => rw [sS_next hk]; exact Int.dvd_natAbs.mp (Int.natCast_dvd_natCast.mpr (Nat.gcd_dvd_right _ _))
end K42
set_option maxHeartbeats 0
namespace K42
open PySem PySem.Spec PyProof.Rows L2 He TC Evl
def pk (l : Addr) (at_ d c f : Int) : List (Key × V) := [(.inr "cells", .ref l), (.inr "at", .int at_), (.inr "digits", .int d), (.inr "count", .int c), (.inr "fold", .int f)]
theorem put_at {l : Addr} {a d c f v : Int} : putK (pk l a d c f) (.inr "at") (.int v) = pk l v d c f := rfl
theorem put_digits {l : Addr} {a d c f v : Int} : putK (pk l a d c f) (.inr "digits") (.int v) = pk l a v c f := rfl
theorem put_count {l : Addr} {a d c f v : Int} : putK (pk l a d c f) (.inr "count") (.int v) = pk l a d v f := rfl
theorem put_fold {l : Addr} {a d c f v : Int} : putK (pk l a d c f) (.inr "fold") (.int v) = pk l a d c v := rfl
structure PenAt (H : Hp) (p l : Addr) (ns : List Int) (at_ d c f : Int) (n : Nat) : Prop where
  dk : H p = some (.dK (pk l at_ d c f))
  cl : H l = some (.lst (ns.map V.int))
  ha : 0 ≤ at_
  hd : 0 ≤ d
  hc : 0 ≤ c ∧ c ≤ n
  hf : 0 ≤ f ∧ f < 2147483587
def Pen (l : Addr) (n : Nat) (H : Hp) (p : Addr) : Prop := ∃ ns at_ d c f, PenAt H p l ns at_ d c f n
theorem Pen.mono {l : Addr} {n m : Nat} {H : Hp} {p : Addr} (h : Pen l n H p) (k : n ≤ m) : Pen l m H p := by
  obtain ⟨ns, at_, d, c, f, h⟩ := h
  exact ⟨ns, at_, d, c, f, h.dk, h.cl, h.ha, h.hd, ⟨h.hc.1, by have := h.hc.2; omega⟩, h.hf⟩
theorem Pen.ex {l : Addr} {n : Nat} {H H' : Hp} {p : Addr} (e : Ex H H') (h : Pen l n H p) : Pen l n H' p := by
  obtain ⟨ns, at_, d, c, f, h⟩ := h
  exact ⟨ns, at_, d, c, f, e _ _ h.dk, e _ _ h.cl, h.ha, h.hd, h.hc, h.hf⟩
theorem Pen.isD {l : Addr} {n : Nat} {H : Hp} {p : Addr} (h : Pen l n H p) : ∃ kvs, H p = some (.dK kvs) := by
  obtain ⟨ns, at_, d, c, f, h⟩ := h
  exact ⟨_, h.dk⟩
theorem PenAt.nlp {H : Hp} {p l : Addr} {ns : List Int} {at_ d c f : Int} {n : Nat} (h : PenAt H p l ns at_ d c f n) : l ≠ p := fun z => by
  have h1 := h.cl
  rw [z, h.dk] at h1
  cases h1
section
variable {w : World} {h0 base : Heap} {K : PySem.W.Frag} {mg : Str → Option Value}
def sp_law_pen (K : PySem.W.Frag) : Sp := fun vs H Q _ => ∃ (a : Addr) (ns : List Int), vs = [.ref a] ∧ SqL K H a (ns.map V.int) ∧ ∀ p l H', Ex H H' → H p = none → Pen l 0 H' p → Q (.ref p) H'
theorem ok_law_pen (T : Wk h0 K mg base) : ClC CX0 PP w K mg base 1 "_law_pen" ["script"] (sp_law_pen K) := by
  obtain ⟨fd, F⟩ := f_law_pen T
  refine ⟨_, fd, g_law_pen T, F.kp, F.bindsN (fun _ _ _ _ _ _ us hl => match us, hl with | [_], _ => rfl), F.ok sc_law_pen (fun vs H Q E h => ?_) (fun cdv A outer s H vs Q E hr h => ⟨_, PSs.nox (pss_cons (ps_set (i := 1) sc_law_pen.nd rfl (Or.inl rfl) (pe_int)) (pss_cons (ps_for PassesOwn.never rfl (pi_any (pv 0)) (pg_name (i := 2) sc_law_pen.nd rfl (Or.inl rfl)) (pss_one (ps_set (i := 1) sc_law_pen.nd rfl (Or.inl rfl) (pe_op op_mod (pe_callTy call_int1 (by rfl) (m_int T) (by decide +kernel) (pa_cons (pe_op op_add (pe_op op_mul (pv 1) (pe_int)) (pv 2)) pa_nil)) (pe_int))))) (pss_one (ps_ret (pe_disp (pps_cons (pe_str) (pe_callTy call_list_of (by rfl) (m_list T) (by decide +kernel) (pa_cons (pv 0) pa_nil)) (pps_cons (pe_str) (pe_int) (pps_cons (pe_str) (pe_int) (pps_cons (pe_str) (pe_int) (pps_cons (pe_str) (pv 1) pps_nil))))) (by rfl) (by rfl) (fun z => by cases z) (by decide)))))), ?_⟩)⟩
  · obtain ⟨a, ns, rfl, _⟩ := h; rfl
  · obtain ⟨a, ns, rfl, sq, hQ⟩ := h
    refine q_asg (v := .int 0) ev_c fun H1 e1 => ?_
    refine q_forA (b := false) (a := a) (xs := ns.map V.int) (ev_var rfl) (ex_l e1 sq) (fun i σ' H' => ∃ (f : Int) (x : Option V), σ' = [some (.ref a), some (.int f), x] ∧ Ex H H' ∧ 0 ≤ f ∧ f < 1000000007)
      (fun H2 e2 => ⟨0, none, rfl, e1.trans e2, by decide, by decide⟩) (fun i σ' H' _ ⟨_, _, _, e, _⟩ => ex_l e sq) (fun i x σ' H' hx ⟨f, y, es, e, h1, h2⟩ => ?_) (fun σ' H' ⟨f, y, es, e, h1, h2⟩ => ?_)
    · subst es
      rw [List.getElem?_map] at hx
      cases hn : ns[i]? with
      | none => rw [hn] at hx; cases hx
      | some n =>
        rw [hn] at hx
        cases hx
        refine s_asg (v := .int ((f * 47 + n) % 1000000007)) (ev_op (ev_int1 (ev_op (ev_op (ev_var rfl) ev_c (rv_I (cmul (.inl ⟨by omega, by omega⟩)))) (ev_var rfl) rv_I0)) ev_c (rv_I (by decide))) fun H2 e2 => ?_
        exact ⟨_, _, rfl, e.trans e2, Int.emod_nonneg _ (by decide), Int.emod_lt_of_pos _ (by decide)⟩
    · subst es
      intro p hp
      have hx : EvL (tCB (fun xs H Q => ∃ p ys, xs = [.ref p] ∧ (SqL K H p ys ∨ SqT K H p ys) ∧ ∀ l, H l = none → Q (.ref l) (upd H l (.lst ys))) (tCons (tVar 0) tNil)) [some (.ref a), some (.int f), y] (upd H' p (.dK [])) (ns.map V.int) := el_listOf (b := false) (ev_var rfl) (ex_l (e.trans (Ex.new hp)) sq)
      simp only [tPairs, tC]
      refine hx _ (Ex.refl _) _ fun l H2 hl e2 hl2 => ?_
      refine ⟨_, rfl, e2 p _ upd_same, [(.inr "cells", .ref l), (.inr "at", .int 0), (.inr "digits", .int 0), (.inr "count", .int 0), (.inr "fold", .int f)], rfl, (by show (5 : Nat) ≤ 15; decide), ?_⟩
      have np : l ≠ p := fun z => by rw [z, upd_same] at hl; cases hl
      refine hQ p l _ (Ex.mut (e.trans ((Ex.new hp).trans e2)) (fresh_back e hp)) (fresh_back e hp) ⟨ns, 0, 0, 0, f, ?_, by rw [upd_ne np]; exact hl2, by decide, by decide, ⟨by decide, by decide⟩, ⟨h1, by omega⟩⟩
      rw [upd_same]
      rfl
def sp_law_draw : Sp := fun vs H Q _ => ∃ (p l : Addr) (m : Int) (n : Nat), vs = [.ref p, .int m] ∧ 0 < m ∧ m < 2 ^ 20 ∧ Pen l n H p ∧ n ≤ 100000 ∧ ∀ k H', 0 ≤ k → k < m → ExX p H H' → Pen l (n + 1) H' p → Q (.int k) H'
theorem ok_law_draw (T : Wk h0 K mg base) : ClC CX0 PP w K mg base 1 "_law_draw" ["pen", "many"] sp_law_draw := by
  obtain ⟨fd, F⟩ := f_law_draw T
  refine ⟨_, fd, g_law_draw T, F.kp, F.bindsN (fun _ _ _ _ _ _ us hl => match us, hl with | [_, _], _ => rfl), F.ok sc_law_draw (fun vs H Q E h => ?_) (fun cdv A outer s H vs Q E hr h => ⟨_, PSs.nox (pss_cons (ps_dput (hu_of hr) (pv 0) (pe_str) (pe_op op_add (pe_dget (hu_of hr) (pv 0) (pe_str) (fun _ _ => rfl)) (pe_int)) rfl) (pss_cut (ps_if (PW.pt (pw_and (pt_cmpR (op_eq) (pe_dget (hu_of hr) (pv 0) (pe_str) (fun _ _ => rfl)) (pe_int) (nomark _)) (pw_and1 (pt_cmpR (op_lt) (pe_dget (hu_of hr) (pv 0) (pe_str) (fun _ _ => rfl)) (pe_callB (call_lenK (K := K) rfl) (by rfl) (m_len T) boot_len (pa_cons (pe_dget (hu_of hr) (pv 0) (pe_str) (fun _ _ => rfl)) pa_nil)) (nomark _))))) (pss_cons (ps_set (i := 2) sc_law_draw.nd rfl (Or.inl rfl) (pe_ix (ix_seqK (K := K) rfl) (pe_dget (hu_of hr) (pv 0) (pe_str) (fun _ _ => rfl)) (pe_dget (hu_of hr) (pv 0) (pe_str) (fun _ _ => rfl)) (fun _ _ => rfl))) (pss_cons (ps_dput (hu_of hr) (pv 0) (pe_str) (pe_op op_add (pe_dget (hu_of hr) (pv 0) (pe_str) (fun _ _ => rfl)) (pe_int)) rfl) (pss_one (ps_if (pt_cmpR (op_ge) (pv 2) (pe_op op_pow (pe_int) (pe_int)) (nomark _)) (pss_one (ps_dput (hu_of hr) (pv 0) (pe_str) (pe_op op_sub (pv 2) (pe_op op_pow (pe_int) (pe_int))) rfl)) (pss_one (ps_dput (hu_of hr) (pv 0) (pe_str) (pe_op op_mod (pe_callTy call_int1 (by rfl) (m_int T) (by decide +kernel) (pa_cons (pe_op op_add (pe_op op_mul (pe_dget (hu_of hr) (pv 0) (pe_str) (fun _ _ => rfl)) (pe_int)) (pv 2)) pa_nil)) (pe_int)) rfl)))))) pss_nil) (pss_cons (ps_if (pt_cmpR (op_gt) (pe_dget (hu_of hr) (pv 0) (pe_str) (fun _ _ => rfl)) (pe_int) (nomark _)) (pss_cons (ps_set (i := 3) sc_law_draw.nd rfl (Or.inl rfl) (pe_op op_mod (pe_callTy call_int1 (by rfl) (m_int T) (by decide +kernel) (pa_cons (pe_dget (hu_of hr) (pv 0) (pe_str) (fun _ _ => rfl)) pa_nil)) (pv 1))) (pss_cons (ps_dput (hu_of hr) (pv 0) (pe_str) (pe_op op_fdiv (pe_dget (hu_of hr) (pv 0) (pe_str) (fun _ _ => rfl)) (pv 1)) rfl) (pss_one (ps_ret (pv 3))))) pss_nil) (pss_cons (ps_set (i := 4) sc_law_draw.nd rfl (Or.inl rfl) (pe_op op_add (pe_op op_add (pe_dget (hu_of hr) (pv 0) (pe_str) (fun _ _ => rfl)) (pe_op op_mul (pe_dget (hu_of hr) (pv 0) (pe_str) (fun _ _ => rfl)) (pe_int))) (pe_int))) (pss_one (ps_ret (pe_op op_mod (pe_op op_fdiv (pe_callTy call_int1 (by rfl) (m_int T) (by decide +kernel) (pa_cons (pe_op op_mod (pe_op op_pow (pv 4) (pe_int)) (pe_int)) pa_nil)) (pe_int)) (pv 1)))))))), ?_⟩)⟩
  · obtain ⟨p, l, m, n, rfl, _⟩ := h; rfl
  · obtain ⟨p, l, m, n, rfl, hm0, hm1, ⟨ns, at_, d, c, f, hp⟩, hn, hQ⟩ := h
    have hn' : (n : Int) ≤ 100000 := by omega
    have hc := hp.hc
    have hf := hp.hf
    refine q_dput (v := .int (c + 1)) (ev_op (ev_dget (ev_var rfl) ev_c hp.dk rfl) ev_c rv_I0) (ev_var rfl) ev_c hp.dk (by show (5 : Nat) < 1000; decide) fun H1 e1 => ?_
    have P1 : PenAt (upd H1 p (.dK (pk l at_ d (c + 1) f))) p l ns at_ d (c + 1) f (n + 1) := ⟨upd_same, by rw [upd_ne hp.nlp]; exact e1 _ _ hp.cl, hp.ha, hp.hd, ⟨by omega, by omega⟩, hf⟩
    have X1 : ExX p H (upd H1 p (.dK (pk l at_ d (c + 1) f))) := (ExX.of e1).trans ExX.upd
    rw [put_count]
    generalize upd H1 p (.dK (pk l at_ d (c + 1) f)) = G1 at P1 X1
    refine q_cut (M := fun σ' H' => ∃ (x2 x3 x4 : Option V) (a' d' f' : Int), σ' = [some (.ref p), some (.int m), x2, x3, x4] ∧ ExX p H H' ∧ PenAt H' p l ns a' d' (c + 1) f' (n + 1)) ?_ fun σ' H' ⟨x2, x3, x4, a', d', f', es, X2, P2⟩ => ?_
    · refine s_if (b := decide (V.int d = V.int 0) && decide (at_ < (ns.length : Int))) (et_and (et_test (ev_op (ev_dget (ev_var rfl) ev_c P1.dk rfl) ev_c (rv_eq rfl))) (fun _ => et_test (ev_op (ev_dget (ev_var rfl) ev_c P1.dk rfl) (ev_is (ev_lenA (b := false) (ev_dget (ev_var rfl) ev_c P1.dk rfl) (sq_of P1.cl)) (by rw [List.length_map])) rv_I0))) (fun hb H2 e2 => ?_) (fun hb H2 e2 => ?_)
      · obtain ⟨hb1, hb2⟩ := ba hb
        have hat := of_decide_eq_true hb2
        have hz : d = 0 := by have := of_decide_eq_true hb1; injection this
        obtain ⟨k, rfl⟩ : ∃ k : Nat, at_ = (k : Int) := ⟨at_.toNat, by have := P1.ha; omega⟩
        have hk : k < ns.length := by omega
        refine q_asg (v := .int (ns.getD k 0)) (ev_ixA (b := false) (i := (k : Int)) (ev_dget (ev_var rfl) ev_c (e2 _ _ P1.dk) rfl) (ev_dget (ev_var rfl) ev_c (e2 _ _ P1.dk) rfl) (sq_of (e2 _ _ P1.cl)) (atI_int hk)) fun H3 e3 => ?_
        have e23 := e2.trans e3
        refine q_dput (v := .int ((k : Int) + 1)) (ev_op (ev_dget (ev_var rfl) ev_c (e23 _ _ P1.dk) rfl) ev_c rv_I0) (ev_var rfl) ev_c (e23 _ _ P1.dk) (by show (5 : Nat) < 1000; decide) fun H4 e4 => ?_
        have P3 : PenAt (upd H4 p (.dK (pk l ((k : Int) + 1) d (c + 1) f))) p l ns ((k : Int) + 1) d (c + 1) f (n + 1) := ⟨upd_same, by rw [upd_ne P1.nlp]; exact (e23.trans e4) _ _ P1.cl, by omega, P1.hd, P1.hc, P1.hf⟩
        have X3 : ExX p H (upd H4 p (.dK (pk l ((k : Int) + 1) d (c + 1) f))) := (X1.trans (ExX.of (e23.trans e4))).trans ExX.upd
        rw [put_at]
        generalize upd H4 p (.dK (pk l ((k : Int) + 1) d (c + 1) f)) = G3 at P3 X3
        refine s_if (b := decide ((10 : Int) ^ 18 ≤ ns.getD k 0)) (et_test (ev_op (ev_var rfl) (y := .int ((10 : Int) ^ 18)) (ev_op ev_c ev_c (rv_I ⟨by decide, by decide, by decide⟩)) rv_I0)) (fun hb H5 e5 => ?_) (fun hb H5 e5 => ?_)
        · refine s_dput (v := .int (ns.getD k 0 - (10 : Int) ^ 18)) (ev_op (ev_var rfl) (y := .int ((10 : Int) ^ 18)) (ev_op ev_c ev_c (rv_I ⟨by decide, by decide, by decide⟩)) rv_I0) (ev_var rfl) ev_c (e5 _ _ P3.dk) (by show (5 : Nat) < 1000; decide) fun H6 e6 => ?_
          have := of_decide_eq_true hb
          exact ⟨_, none, none, (k : Int) + 1, ns.getD k 0 - (10 : Int) ^ 18, f, rfl, (X3.trans (ExX.of (e5.trans e6))).trans ExX.upd, upd_same, by rw [upd_ne P1.nlp]; exact (e5.trans e6) _ _ P3.cl, P3.ha, by omega, P3.hc, P3.hf⟩
        · refine s_dput (v := .int ((f * 69069 + ns.getD k 0) % 2147483587)) (ev_op (ev_int1 (ev_op (ev_op (ev_dget (ev_var rfl) ev_c (e5 _ _ P3.dk) rfl) ev_c (rv_I (cmul (.inl ⟨by omega, by omega⟩)))) (ev_var rfl) rv_I0)) ev_c (rv_I (by decide))) (ev_var rfl) ev_c (e5 _ _ P3.dk) (by show (5 : Nat) < 1000; decide) fun H6 e6 => ?_
          exact ⟨_, none, none, (k : Int) + 1, d, _, rfl, (X3.trans (ExX.of (e5.trans e6))).trans ExX.upd, upd_same, by rw [upd_ne P1.nlp]; exact (e5.trans e6) _ _ P3.cl, P3.ha, P3.hd, P3.hc, ⟨Int.emod_nonneg _ (by decide), Int.emod_lt_of_pos _ (by decide)⟩⟩
      · exact ⟨none, none, none, at_, d, f, rfl, X1.trans (ExX.of e2), e2 _ _ P1.dk, e2 _ _ P1.cl, P1.ha, P1.hd, P1.hc, P1.hf⟩
    · subst es
      have hd2 := P2.hd
      have hc2 := P2.hc
      have hf2 := P2.hf
      refine q_when (b := decide (0 < d')) (et_test (ev_op (ev_dget (ev_var rfl) ev_c P2.dk rfl) ev_c rv_I0)) (fun hb H2 e2 => ?_) (fun hb H2 e2 => ?_)
      · refine q_asg (v := .int (d' % m)) (ev_op (ev_int1 (ev_dget (ev_var rfl) ev_c (e2 _ _ P2.dk) rfl)) (ev_var rfl) (rv_I hm0)) fun H3 e3 => ?_
        refine q_dput (v := .int (d' / m)) (ev_op (ev_dget (ev_var rfl) ev_c ((e2.trans e3) _ _ P2.dk) rfl) (ev_var rfl) (rv_I ⟨hm0, by omega⟩)) (ev_var rfl) ev_c ((e2.trans e3) _ _ P2.dk) (by show (5 : Nat) < 1000; decide) fun H4 e4 => ?_
        refine s_ret (v := .int (d' % m)) (ev_var rfl) fun H5 e5 => hQ _ H5 (Int.emod_nonneg _ (by omega)) (Int.emod_lt_of_pos _ hm0) (((X2.trans (ExX.of ((e2.trans e3).trans e4))).trans ExX.upd).trans (ExX.of e5)) ?_
        refine Pen.ex e5 ⟨ns, a', d' / m, c + 1, f', upd_same, by rw [upd_ne P2.nlp]; exact ((e2.trans e3).trans e4) _ _ P2.cl, P2.ha, Int.ediv_nonneg hd2 (by omega), P2.hc, P2.hf⟩
      · have P3 : PenAt H2 p l ns a' d' (c + 1) f' (n + 1) := ⟨e2 _ _ P2.dk, e2 _ _ P2.cl, P2.ha, P2.hd, P2.hc, P2.hf⟩
        refine q_asg (v := .int (f' + (c + 1) * 7907 + 37)) (ev_op (ev_op (ev_dget (ev_var rfl) ev_c P3.dk rfl) (ev_op (ev_dget (ev_var rfl) ev_c P3.dk rfl) ev_c (rv_I (cmul (.inl ⟨by omega, by omega⟩)))) rv_I0) ev_c rv_I0) fun H3 e3 => ?_
        have hb : (f' + (c + 1) * 7907 + 37).natAbs < 2 ^ 64 := by omega
        generalize f' + (c + 1) * 7907 + 37 = mx at hb
        refine s_ret (v := .int (mx ^ 17 % 2305843009213693951 / 128 % m)) (ev_op (ev_op (ev_int1 (ev_op (ev_op (x := .int mx) (y := .int 17) (z := .int (mx ^ 17)) (ev_var rfl) ev_c (rv_I ⟨by decide, by decide, hb⟩)) ev_c (rv_I (by decide)))) ev_c (rv_I ⟨by decide, by decide⟩)) (ev_var rfl) (rv_I hm0)) fun H4 e4 => ?_
        exact hQ _ H4 (Int.emod_nonneg _ (by omega)) (Int.emod_lt_of_pos _ hm0) (X2.trans (ExX.of ((e2.trans e3).trans e4))) (Pen.ex (e3.trans e4) ⟨ns, a', d', c + 1, f', P3⟩)
end
end K42
set_option maxHeartbeats 0
namespace K42
open PySem PySem.Spec PyProof.Rows L2 He TC Evl
section
variable {w : World} {h0 base : Heap} {K : PySem.W.Frag} {mg : Str → Option Value}
def sp_law_pick (K : PySem.W.Frag) : Sp := fun vs H Q _ => ∃ (p l : Addr) (n : Nat) (b : Bool) (a : Addr) (xs : List V), vs = [.ref p, .ref a] ∧ Pen l n H p ∧ n ≤ 100000 ∧ SqB K H b a xs ∧ 0 < xs.length ∧ xs.length ≤ 1000 ∧ ∀ (k : Nat) x H', xs[k]? = some x → ExX p H H' → Pen l (n + 1) H' p → Q x H'
theorem ok_law_pick (T : Wk h0 K mg base) : ClC CX0 PP w K mg base 2 "_law_pick" ["pen", "some"] (sp_law_pick K) := by
  obtain ⟨fd, F⟩ := f_law_pick T
  refine ⟨_, fd, g_law_pick T, F.kp, F.bindsN (fun _ _ _ _ _ _ us hl => match us, hl with | [_, _], _ => rfl), F.ok sc_law_pick (fun vs H Q E h => ?_) (fun cdv A outer s H vs Q E hr h => ⟨_, PSs.nox (pss_one (ps_ret (pe_ix (ix_seqK (K := K) rfl) (pv 1) (pe_cl (ok_law_draw T) hr (by decide) (by rfl) (pa_cons (pv 0) (pa_cons (pe_callB (call_lenK (K := K) rfl) (by rfl) (m_len T) boot_len (pa_cons (pv 1) pa_nil)) pa_nil))) (fun _ _ => rfl)))), ?_⟩)⟩
  · obtain ⟨p, l, n, b, a, xs, rfl, _⟩ := h; rfl
  · obtain ⟨p, l, n, b, a, xs, rfl, hp, hn, sq, hl0, hl1, hQ⟩ := h
    refine ⟨_, rfl, _, rfl, (ev_lenA (b := b) (ev_var rfl) sq) H (Ex.refl H) _ fun H1 e1 => ?_⟩
    obtain ⟨kvs, hk⟩ := hp.isD
    refine ⟨p, l, _, n, rfl, by omega, by omega, hp.ex e1, hn, fun k H2 h1 h2 x2 pn => ?_⟩
    obtain ⟨j, rfl⟩ : ∃ j : Nat, k = (j : Int) := ⟨k.toNat, by omega⟩
    have hj : j < xs.length := by omega
    have sq2 : SqB K H2 b a xs := sqB_N (e1 _ _ hk) True.intro x2 (sq.ex e1)
    have hx : xs[j]? = some xs[j] := List.getElem?_eq_getElem hj
    exact (rv_ixA sq2 (atI_n hx)) H2 (Ex.refl _) _ fun H3 e3 => hQ j _ H3 hx (((ExX.of e1).trans x2).trans (ExX.of e3)) (pn.ex e3)
def sp_law_listed (K : PySem.W.Frag) : Sp := fun vs H Q _ => ∃ (p l : Addr) (n : Nat) (b : Bool) (x : V) (ds : List PyData), vs = [.ref p, x] ∧ Pen l n H p ∧ n ≤ 100000 ∧ Dp K H x (seqD b ds) ∧ ∀ v b' H', ExX p H H' → Pen l (n + 1) H' p → Dp K H' v (seqD b' ds) → Q v H'
theorem ok_law_listed (T : Wk h0 K mg base) : ClC CX0 PP w K mg base 2 "_law_listed" ["pen", "row"] (sp_law_listed K) := by
  obtain ⟨fd, F⟩ := f_law_listed T
  refine ⟨_, fd, g_law_listed T, F.kp, F.bindsN (fun _ _ _ _ _ _ us hl => match us, hl with | [_, _], _ => rfl), F.ok sc_law_listed (fun vs H Q E h => ?_) (fun cdv A outer s H vs Q E hr h => ⟨_, PSs.nox (pss_one (ps_ret (pe_ifExp (pt_cmpR (op_eq) (pe_cl (ok_law_draw T) hr (by decide) (by rfl) (pa_cons (pv 0) (pa_cons (pe_int) pa_nil))) (pe_int) (nomark _)) (pe_callTy call_list_of (by rfl) (m_list T) (by decide +kernel) (pa_cons (pv 1) pa_nil)) (pe_callTy call_tuple_of (by rfl) (m_tuple T) (by decide +kernel) (pa_cons (pv 1) pa_nil))))), ?_⟩)⟩
  · obtain ⟨p, l, n, b, x, ds, rfl, _⟩ := h; rfl
  · obtain ⟨p, l, n, b, x, ds, rfl, hp, hn, hd, hQ⟩ := h
    obtain ⟨kvs, hk⟩ := hp.isD
    refine ⟨_, rfl, p, l, 2, n, rfl, by decide, by decide, hp, hn, fun k H2 h1 h2 x2 pn => ?_⟩
    have hd2 : Dp K H2 x (seqD b ds) := Dp.exN hk True.intro x2 hd
    obtain ⟨a, xs, rfl, sq, da⟩ := Dp.seq_inv hd2
    have c : (if decide (V.int k = V.int 0) = true then tCB (fun xs H Q => ∃ p ys, xs = [.ref p] ∧ (SqL K H p ys ∨ SqT K H p ys) ∧ ∀ l, H l = none → Q (.ref l) (upd H l (.lst ys))) (tCons (tVar 1) tNil) else tCB (rTupOf K) (tCons (tVar 1) tNil)) [some (.ref p), some (.ref a)] H2 (fun v H' => Q v H') := by
      by_cases hz : decide (V.int k = V.int 0) = true
      · rw [if_pos hz]
        exact (el_listOf (b := b) (ev_var rfl) sq) H2 (Ex.refl _) _ fun l H3 _ e3 hl => hQ _ false H3 (x2.trans (ExX.of e3)) (pn.ex e3) (Dp.seq (b := false) (sq_of hl) (DpAll.ex e3 da))
      · rw [if_neg hz]
        exact (ep_tupleOf (b := b) (R := fun xs H1 => DpAll K H1 xs ds) ((Ev.p (ev_var rfl)).imp fun v H1 e ev => ⟨a, xs, ev, sq.ex e, DpAll.ex e da⟩) (fun _ _ _ e z => DpAll.ex e z)) H2 (Ex.refl _) _ fun v H3 e3 ⟨q, ys, ev, hs, hx⟩ => by
          subst ev
          exact hQ _ true H3 (x2.trans (ExX.of e3)) (pn.ex e3) (Dp.seq (b := true) hs hx)
    refine ⟨rfl, decide (V.int k = V.int 0), rfl, ?_⟩
    by_cases hz : decide (V.int k = V.int 0) = true
    · rw [if_pos hz] at c ⊢
      exact c
    · rw [if_neg hz] at c ⊢
      exact c
theorem gcd_step {a b : Int} (hb : 0 < b) : Nat.gcd b.natAbs (a % b).natAbs = Nat.gcd a.natAbs b.natAbs := by
  have h1 : Int.gcd b (a % b) = Int.gcd a b := by
    apply Nat.dvd_antisymm
    · have d1 : ((Int.gcd b (a % b) : Nat) : Int) ∣ b := Int.gcd_dvd_left ..
      have d2 : ((Int.gcd b (a % b) : Nat) : Int) ∣ a % b := Int.gcd_dvd_right ..
      have d3 : ((Int.gcd b (a % b) : Nat) : Int) ∣ a := by
        have := Int.dvd_add (Int.dvd_mul_of_dvd_left (c := a / b) d1) d2
        rw [Int.mul_ediv_add_emod] at this
        exact this
      exact Int.dvd_gcd d3 d1
    · have d1 : ((Int.gcd a b : Nat) : Int) ∣ a := Int.gcd_dvd_left ..
      have d2 : ((Int.gcd a b : Nat) : Int) ∣ b := Int.gcd_dvd_right ..
      have d3 : ((Int.gcd a b : Nat) : Int) ∣ a % b := by
        have h := Int.dvd_sub d1 (Int.dvd_mul_of_dvd_left (c := a / b) d2)
        have e : a - b * (a / b) = a % b := by have := Int.mul_ediv_add_emod a b; omega
        rw [e] at h
        exact h
      exact Int.dvd_gcd d2 d3
  exact h1
end
end K42
set_option maxHeartbeats 0
namespace K42
open PySem PySem.Spec PyProof.Rows L2 He TC Evl
/-- the runs of Euclid -/
def eu : Nat → Nat → List Nat
  | _, 0 => []
  | a, c + 1 => List.replicate (a / (c + 1)) (c + 1) ++ eu (c + 1) (a % (c + 1))
termination_by _ c => c
decreasing_by exact Nat.mod_lt _ (Nat.succ_pos c)
theorem eu_zero (a : Nat) : eu a 0 = [] := by unfold eu; rfl
theorem eu_pos {a c : Nat} (h : 0 < c) : eu a c = List.replicate (a / c) c ++ eu c (a % c) := by
  cases c with
  | zero => omega
  | succ c => rw [eu]
def big (l : List Nat) : List Nat := l.filter fun x => decide (1 < x)
theorem big_app (l m : List Nat) : big (l ++ m) = big l ++ big m := List.filter_append ..
theorem big_rep {s : Nat} (h : 1 < s) (q : Nat) : big (List.replicate q s) = List.replicate q s := by
  unfold big
  rw [List.filter_eq_self]
  intro x hx
  rw [(List.mem_replicate.mp hx).2]
  exact decide_eq_true h
theorem big_one (q : Nat) : big (List.replicate q 1) = [] := by
  unfold big
  rw [List.filter_eq_nil_iff]
  intro x hx
  rw [(List.mem_replicate.mp hx).2]
  decide
theorem eu_one (a : Nat) : big (eu a 1) = [] := by
  rw [eu_pos (by decide), Nat.mod_one, eu_zero, List.append_nil]
  exact big_one _
theorem eu_len : ∀ (c a : Nat), (eu a c).length ≤ a + c := fun c => by
  induction c using Nat.strongRecOn with
  | ind c ih =>
    intro a
    by_cases h : 0 < c
    · rw [eu_pos h, List.length_append, List.length_replicate]
      have h1 := ih (a % c) (Nat.mod_lt _ h) c
      have h2 := Nat.div_add_mod a c
      have h3 : a / c ≤ c * (a / c) := Nat.le_mul_of_pos_left _ h
      omega
    · have : c = 0 := by omega
      rw [this, eu_zero]
      simp
theorem eu_mem : ∀ (c a : Nat), ∀ x ∈ eu a c, Nat.gcd a c ∣ x ∧ 0 < x ∧ x ≤ c := fun c => by
  induction c using Nat.strongRecOn with
  | ind c ih =>
    intro a x hx
    by_cases h : 0 < c
    · rw [eu_pos h] at hx
      rcases List.mem_append.mp hx with hx | hx
      · rw [(List.mem_replicate.mp hx).2]
        exact ⟨Nat.gcd_dvd_right _ _, h, Nat.le_refl _⟩
      · obtain ⟨h1, h2, h3⟩ := ih (a % c) (Nat.mod_lt _ h) c x hx
        have e : Nat.gcd c (a % c) = Nat.gcd a c := by rw [Nat.gcd_comm a c, Nat.gcd_rec c a, Nat.gcd_comm]
        rw [e] at h1
        exact ⟨h1, h2, by have := Nat.mod_lt a h; omega⟩
    · have : c = 0 := by omega
      rw [this, eu_zero] at hx
      cases hx
theorem gcd_step' (a c : Nat) : Nat.gcd c (a % c) = Nat.gcd a c := by rw [Nat.gcd_comm a c, Nat.gcd_rec c a, Nat.gcd_comm]
theorem big_eu {s r : Nat} (h : 1 < Nat.gcd s r) : big (eu s r) = eu s r := by
  unfold big
  rw [List.filter_eq_self]
  intro x hx
  obtain ⟨h1, h2, _⟩ := eu_mem r s x hx
  have := Nat.le_of_dvd h2 h1
  exact decide_eq_true (by omega)
/-- the first of what stands behind s: r -/
theorem eu_head {s r : Nat} {L : List Nat} (h0 : 0 < r) (h1 : r ≤ s) (hL : Nat.gcd s r = 1 → L = []) : (big (eu s r) ++ L).getD 0 1 = r := by
  by_cases h : r = 1
  · subst h
    rw [eu_one, hL (Nat.gcd_one_right s)]
    rfl
  · have h2 : 1 < r := by omega
    rw [eu_pos h0, big_app, big_rep h2]
    obtain ⟨k, hk⟩ : ∃ k, s / r = k + 1 := ⟨s / r - 1, by have := Nat.div_pos h1 h0; omega⟩
    rw [hk, List.replicate_succ]
    rfl
def ruleB (m : Nat) (L : List Nat) : Bool := decide (L.getD 0 1 ≤ m) && ((List.range (m / L.getD 0 1)).all (fun k => L.getD k 1 == L.getD 0 1) && (m % L.getD 0 1 == 0 || L.getD (m / L.getD 0 1) 1 == m % L.getD 0 1))
theorem ruleB_iff {m : Nat} {L : List Nat} : ruleB m L = true ↔ L.getD 0 1 ≤ m ∧ (∀ k, k < m / L.getD 0 1 → L.getD k 1 = L.getD 0 1) ∧ (m % L.getD 0 1 = 0 ∨ L.getD (m / L.getD 0 1) 1 = m % L.getD 0 1) := by
  unfold ruleB
  simp only [Bool.and_eq_true, Bool.or_eq_true, decide_eq_true_eq, List.all_eq_true, List.mem_range, beq_iff_eq]
inductive Good : List Nat → Prop
  | nil : Good []
  | cons {m : Nat} {L : List Nat} : ruleB m L = true → Good L → Good (m :: L)
theorem rule_self {m : Nat} {L : List Nat} (h : 0 < m) : ruleB m (m :: L) = true := by
  refine ruleB_iff.mpr ?_
  show m ≤ m ∧ (∀ k, k < m / m → (m :: L).getD k 1 = m) ∧ (m % m = 0 ∨ (m :: L).getD (m / m) 1 = m % m)
  rw [Nat.div_self h, Nat.mod_self]
  refine ⟨Nat.le_refl _, fun k hk => ?_, .inl rfl⟩
  have : k = 0 := by omega
  rw [this]; rfl
theorem rule_nil (m : Nat) (h : 0 < m) : ruleB m [] = true := by
  refine ruleB_iff.mpr ?_
  show 1 ≤ m ∧ (∀ k, k < m / 1 → ([] : List Nat).getD k 1 = 1) ∧ (m % 1 = 0 ∨ _)
  exact ⟨h, fun k _ => rfl, .inl (Nat.mod_one m)⟩
theorem good_rep {r : Nat} {L : List Nat} (h : 0 < r) (h1 : ruleB r L = true) (h2 : Good L) : ∀ q, ruleB r (List.replicate q r ++ L) = true ∧ Good (List.replicate q r ++ L)
  | 0 => ⟨h1, h2⟩
  | q + 1 => by
    obtain ⟨g1, g2⟩ := good_rep h h1 h2 q
    rw [List.replicate_succ]
    exact ⟨rule_self h, .cons g1 g2⟩
theorem getD_rep {q r k : Nat} {L : List Nat} (h : k < q) : (List.replicate q r ++ L).getD k 1 = r := by
  rw [List.getD_eq_getElem?_getD, List.getElem?_append_left (by rw [List.length_replicate]; exact h), List.getElem?_replicate, if_pos h]; rfl
theorem getD_after {q r : Nat} {L : List Nat} : (List.replicate q r ++ L).getD q 1 = L.getD 0 1 := by
  rw [List.getD_eq_getElem?_getD, List.getElem?_append_right (by rw [List.length_replicate]; exact Nat.le_refl _), List.length_replicate, Nat.sub_self, ← List.getD_eq_getElem?_getD]
/-- runs of Euclid keep the rule -/
theorem eu_good : ∀ (r s : Nat) (L : List Nat), 0 < r → r ≤ s → (Nat.gcd s r = 1 → L = []) → (1 < Nat.gcd s r → ruleB (Nat.gcd s r) L = true) → Good L → ruleB s (big (eu s r) ++ L) = true ∧ Good (big (eu s r) ++ L) := fun r => by
  induction r using Nat.strongRecOn with
  | ind r ih =>
    intro s L h0 hrs hL hg hgood
    by_cases h1 : r = 1
    · subst h1
      rw [eu_one, hL (Nat.gcd_one_right s)]
      exact ⟨rule_nil s (by omega), .nil⟩
    · have h2 : 1 < r := by omega
      have head := eu_head h0 hrs hL
      rw [eu_pos h0, big_app, big_rep h2, List.append_assoc] at head ⊢
      have dp := Nat.div_pos hrs h0
      have eg := gcd_step' s r
      have mlt := Nat.mod_lt s h0
      by_cases hr' : s % r = 0
      · rw [hr', Nat.gcd_zero_right] at eg
        rw [← eg] at hg hL
        rw [hr', eu_zero]
        obtain ⟨g1, g2⟩ := good_rep h0 (hg h2) hgood (s / r)
        refine ⟨ruleB_iff.mpr ?_, g2⟩
        rw [show big [] ++ L = L from rfl, getD_rep dp]
        exact ⟨hrs, fun k hk => getD_rep hk, .inl hr'⟩
      · obtain ⟨g1, g2⟩ := ih (s % r) mlt r L (by omega) (by omega) (by rw [eg]; exact hL) (by rw [eg]; exact hg) hgood
        obtain ⟨g3, g4⟩ := good_rep h0 g1 g2 (s / r)
        refine ⟨ruleB_iff.mpr ?_, g4⟩
        rw [getD_rep dp]
        refine ⟨hrs, fun k hk => getD_rep hk, .inr ?_⟩
        rw [getD_after]
        exact eu_head (by omega) (by omega) (by rw [eg]; exact hL)
/-- what a run of multiplicities tells: from the share s and the total t -/
inductive Dec : Nat → Nat → List Nat → List Nat → Prop
  | done (t : Nat) : Dec 1 t [] []
  | step {s t q r : Nat} {L out : List Nat} : 1 < s → 0 < r → r < s → Dec (Nat.gcd s r) (t + s * q + r) L out → Dec s t (List.replicate q s ++ (big (eu s r) ++ L)) ((t + s * q + r) :: out)
theorem Dec.one {t : Nat} {L out : List Nat} (h : Dec 1 t L out) : L = [] ∧ out = [] := by
  generalize hs : 1 = s at h
  cases h with
  | done => exact ⟨rfl, rfl⟩
  | step h1 _ _ _ => omega
theorem Dec.pos {s t : Nat} {L out : List Nat} (h : Dec s t L out) : 0 < s := by
  cases h with
  | done => decide
  | step h1 _ _ _ => omega
theorem Dec.good {s t : Nat} {L out : List Nat} (h : Dec s t L out) : (1 < s → ruleB s L = true) ∧ Good L := by
  induction h with
  | done t => exact ⟨fun h => by omega, .nil⟩
  | step h1 h2 h3 hd ih =>
    obtain ⟨i1, i2⟩ := ih
    obtain ⟨g1, g2⟩ := eu_good _ _ _ h2 (Nat.le_of_lt h3) (fun e => by rw [e] at hd; exact hd.one.1) i1 i2
    obtain ⟨g3, g4⟩ := good_rep (by omega) g1 g2 _
    exact ⟨fun _ => g3, g4⟩
/-- the rule forces the runs of Euclid -/
theorem forced : ∀ (b c : Nat) (L : List Nat), ruleB c L = true → Good L → (∀ x ∈ L, 2 ≤ x) → L.getD 0 1 = b → 0 < c → ∃ L', L = big (eu c b) ++ L' ∧ (Nat.gcd c b = 1 → L' = []) ∧ Good L' ∧ (1 < Nat.gcd c b → ruleB (Nat.gcd c b) L' = true) := fun b => by
  induction b using Nat.strongRecOn with
  | ind b ih =>
    intro c L h1 hg h2 hb hc
    cases L with
    | nil =>
      have hb' : b = 1 := hb.symm
      subst hb'
      rw [eu_one, Nat.gcd_one_right]
      exact ⟨[], rfl, fun _ => rfl, .nil, fun h => by omega⟩
    | cons x L0 =>
      have hx : x = b := hb
      subst hx
      have x2 := h2 x List.mem_cons_self
      have x0 : 0 < x := by omega
      obtain ⟨r1, r2, r3⟩ := ruleB_iff.mp h1
      rw [show (x :: L0).getD 0 1 = x from rfl] at r1 r2 r3
      have dp := Nat.div_pos r1 x0
      -- the run of x
      have run : ∀ q, (∀ k, k < q → (x :: L0).getD k 1 = x) → ∃ L1, x :: L0 = List.replicate q x ++ L1 := fun q => by
        induction q with
        | zero => intro _; exact ⟨_, rfl⟩
        | succ q ihq =>
          intro hq
          obtain ⟨L1, e⟩ := ihq fun k hk => hq k (by omega)
          have := hq q (by omega)
          rw [e, getD_after] at this
          cases L1 with
          | nil => exact absurd this (by show ¬ (1 = x); omega)
          | cons y L2 =>
            have hy : y = x := this
            subst hy
            refine ⟨L2, ?_⟩
            rw [e, List.replicate_succ']
            simp
      obtain ⟨L1, e⟩ := run (c / x) r2
      have tails : ∀ q (M : List Nat), 0 < q → Good (List.replicate q x ++ M) → ruleB x M = true ∧ Good M := fun q => by
        induction q with
        | zero => intro _ h _; omega
        | succ q ihq =>
          intro M _ hM
          rw [List.replicate_succ] at hM
          cases hM with
          | cons m1 m2 =>
            by_cases hq : 0 < q
            · exact ihq M hq m2
            · have : q = 0 := by omega
              subst this
              exact ⟨m1, m2⟩
      rw [e] at hg
      obtain ⟨t1, t2⟩ := tails _ L1 dp hg
      have mem1 : ∀ y ∈ L1, 2 ≤ y := fun y hy => h2 y (by rw [e]; exact List.mem_append_right _ hy)
      have eg := gcd_step' c x
      have be : big (eu c x) = List.replicate (c / x) x ++ big (eu x (c % x)) := by rw [eu_pos x0, big_app, big_rep (by omega)]
      by_cases hr : c % x = 0
      · rw [hr, Nat.gcd_zero_right] at eg
        rw [be, hr, eu_zero, ← eg]
        refine ⟨L1, by rw [e]; simp [big], fun h => by omega, t2, fun _ => t1⟩
      · have h0 : L1.getD 0 1 = c % x := by
          have := r3.resolve_left hr
          rw [e, getD_after] at this
          exact this
        obtain ⟨L', e1, e2, e3, e4⟩ := ih (c % x) (Nat.mod_lt _ x0) x L1 t1 t2 mem1 h0 x0
        rw [eg] at e2 e4
        refine ⟨L', ?_, e2, e3, e4⟩
        rw [e, be, List.append_assoc, ← e1]
/-- the leading run -/
theorem lead (s : Nat) : ∀ L : List Nat, ∃ q Y, L = List.replicate q s ++ Y ∧ (Y = [] ∨ ∃ y Z, Y = y :: Z ∧ y ≠ s)
  | [] => ⟨0, [], rfl, .inl rfl⟩
  | x :: L => by
    by_cases h : x = s
    · subst h
      obtain ⟨q, Y, e, hY⟩ := lead x L
      exact ⟨q + 1, Y, by rw [List.replicate_succ, List.cons_append, ← e], hY⟩
    · exact ⟨0, x :: L, rfl, .inr ⟨x, L, rfl, h⟩⟩
theorem rule_tail {s q : Nat} {Y : List Nat} (h : ruleB s (List.replicate q s ++ Y) = true) (hg : Good (List.replicate q s ++ Y)) : ruleB s Y = true ∧ Good Y := by
  induction q with
  | zero => exact ⟨h, hg⟩
  | succ q ih =>
    rw [List.replicate_succ] at hg
    cases hg with
    | cons m1 m2 => exact ih m1 m2
theorem dec_of : ∀ (s t : Nat) (L : List Nat), 1 < s → ruleB s L = true → Good L → (∀ x ∈ L, 2 ≤ x) → ∃ out, Dec s t L out := fun s => by
  induction s using Nat.strongRecOn with
  | ind s ih =>
    intro t L h1 hr hg h2
    obtain ⟨q, Y, e, hY⟩ := lead s L
    rw [e] at hr hg
    obtain ⟨r1, r2⟩ := rule_tail hr hg
    have m2 : ∀ x ∈ Y, 2 ≤ x := fun x hx => h2 x (by rw [e]; exact List.mem_append_right _ hx)
    have b1 := (ruleB_iff.mp r1).1
    have b2 : 0 < Y.getD 0 1 ∧ Y.getD 0 1 ≠ s := by
      rcases hY with rfl | ⟨y, Z, rfl, hy⟩
      · exact ⟨by decide, by show (1 : Nat) ≠ s; omega⟩
      · exact ⟨by have := m2 y List.mem_cons_self; show 0 < y; omega, hy⟩
    obtain ⟨L', e1, e2, e3, e4⟩ := forced _ s Y r1 r2 m2 rfl (by omega)
    have glt : Nat.gcd s (Y.getD 0 1) < s := by
      have := Nat.gcd_le_right s (n := Y.getD 0 1) b2.1
      omega
    have gpos : 0 < Nat.gcd s (Y.getD 0 1) := Nat.gcd_pos_of_pos_left _ (by omega)
    have mL : ∀ x ∈ L', 2 ≤ x := fun x hx => m2 x (by rw [e1]; exact List.mem_append_right _ hx)
    have fin : ∃ out, Dec (Nat.gcd s (Y.getD 0 1)) (t + s * q + Y.getD 0 1) L' out := by
      by_cases hg1 : Nat.gcd s (Y.getD 0 1) = 1
      · rw [hg1, e2 hg1]
        exact ⟨[], .done _⟩
      · exact ih _ glt _ L' (by omega) (e4 (by omega)) e3 mL
    obtain ⟨out, hd⟩ := fin
    have hstep := Dec.step (q := q) (t := t) h1 b2.1 (by omega) hd
    rw [← e1, ← e] at hstep
    exact ⟨_, hstep⟩
end K42
set_option maxHeartbeats 0
namespace K42
open PySem PySem.Spec PyProof.Rows L2 He TC Evl
def euOut : Nat → Nat → List Nat → List Nat
  | _, _, [] => []
  | s, t, x :: o => eu (x - t) s ++ euOut (Nat.gcd s x) x o
def lastS : Nat → List Nat → Nat
  | s, [] => s
  | s, x :: o => lastS (Nat.gcd s x) o
def Inc : Nat → List Nat → Prop
  | _, [] => True
  | t, x :: o => t < x ∧ Inc x o
theorem div_of {s q r : Nat} (h : r < s) : (s * q + r) / s = q ∧ (s * q + r) % s = r := by
  have h0 : 0 < s := by omega
  constructor
  · rw [Nat.add_comm, Nat.add_mul_div_left _ _ h0, Nat.div_eq_of_lt h, Nat.zero_add]
  · rw [Nat.add_comm, Nat.add_mul_mod_self_left, Nat.mod_eq_of_lt h]
theorem gcd_of {s t q r : Nat} (h : s ∣ t) : Nat.gcd s (t + s * q + r) = Nat.gcd s r := by
  obtain ⟨c, rfl⟩ := h
  have e : s * c + s * q + r = r + s * (c + q) := by rw [Nat.mul_add]; omega
  rw [e]
  exact Nat.gcd_add_mul_left_right s r (c + q)
theorem Dec.dvd {s t q r : Nat} (h : s ∣ t) : Nat.gcd s r ∣ t + s * q + r := by
  have h1 : Nat.gcd s r ∣ s := Nat.gcd_dvd_left _ _
  exact Nat.dvd_add (Nat.dvd_add (Nat.dvd_trans h1 h) (Nat.dvd_trans h1 (Nat.dvd_mul_right _ _))) (Nat.gcd_dvd_right _ _)
theorem Dec.eu {s t : Nat} {L out : List Nat} (h : Dec s t L out) : s ∣ t → big (euOut s t out) = L := by
  induction h with
  | done t => intro _; rfl
  | @step s t q r L out h1 h2 h3 hd ih =>
    intro hs
    have hq := div_of (q := q) h3
    show big (K42.eu (t + s * q + r - t) s ++ euOut (Nat.gcd s (t + s * q + r)) (t + s * q + r) out) = _
    rw [show t + s * q + r - t = s * q + r by omega, eu_pos (by omega), hq.1, hq.2, big_app, big_app, big_rep h1, gcd_of hs, ih (Dec.dvd hs), List.append_assoc]
theorem Dec.last {s t : Nat} {L out : List Nat} (h : Dec s t L out) : s ∣ t → lastS s out = 1 := by
  induction h with
  | done t => intro _; rfl
  | @step s t q r L out h1 h2 h3 hd ih =>
    intro hs
    show lastS (Nat.gcd s (t + s * q + r)) out = 1
    rw [gcd_of hs]
    exact ih (Dec.dvd hs)
theorem Dec.inc {s t : Nat} {L out : List Nat} (h : Dec s t L out) : Inc t out := by
  induction h with
  | done t => exact True.intro
  | step h1 h2 h3 hd ih => exact ⟨by omega, ih⟩
theorem big_len : ∀ (c a : Nat), c ≤ a → (eu a c).length ≤ (big (eu a c)).length + a := fun c => by
  induction c using Nat.strongRecOn with
  | ind c ih =>
    intro a hca
    by_cases h : 1 < c
    · rw [eu_pos (by omega), big_app, big_rep h, List.length_append, List.length_append]
      have := ih (a % c) (Nat.mod_lt _ (by omega)) c (Nat.le_of_lt (Nat.mod_lt _ (by omega)))
      omega
    · by_cases h0 : c = 0
      · rw [h0, eu_zero]; simp
      · have : c = 1 := by omega
        subst this
        rw [eu_pos (by decide), Nat.mod_one, eu_zero, List.append_nil, List.length_replicate, Nat.div_one]
        omega
theorem Dec.len {s t : Nat} {L out : List Nat} (h : Dec s t L out) : s ∣ t → (euOut s t out).length ≤ L.length + s := by
  induction h with
  | done t => intro _; simp [euOut]
  | @step s t q r L out h1 h2 h3 hd ih =>
    intro hs
    have hq := div_of (q := q) h3
    show (K42.eu (t + s * q + r - t) s ++ euOut (Nat.gcd s (t + s * q + r)) (t + s * q + r) out).length ≤ _
    rw [show t + s * q + r - t = s * q + r by omega, eu_pos (by omega), hq.1, hq.2, gcd_of hs]
    have i := ih (Dec.dvd hs)
    rw [List.length_append, List.length_append, List.length_append, List.length_append, List.length_replicate]
    by_cases g : Nat.gcd s r = 1
    · rw [g] at hd i
      obtain ⟨rfl, rfl⟩ := hd.one
      rw [g]
      have := big_len r s (by omega)
      simp [euOut]
      omega
    · have gp : 0 < Nat.gcd s r := Nat.gcd_pos_of_pos_left _ (by omega)
      have gl := Nat.gcd_le_left r (m := s) (by omega)
      rw [big_eu (by omega)]
      omega
/-- a row as it is drawn, behind the share s and the item t -/
def DrN : Nat → Nat → List Nat → Prop
  | s, _, [] => s = 1
  | s, t, x :: o => t < x ∧ ¬ s ∣ x ∧ 0 < s ∧ DrN (Nat.gcd s x) x o
theorem DrN.dec : ∀ {o : List Nat} {s t : Nat}, DrN s t o → s ∣ t → Dec s t (big (euOut s t o)) o
  | [], s, t, h, _ => by
    have : s = 1 := h
    subst this
    exact .done t
  | x :: o, s, t, ⟨h1, h2, h3, h4⟩, hs => by
    have ih := DrN.dec h4 (Nat.gcd_dvd_right s x)
    have s1 : 1 < s := by
      by_cases e : s = 1
      · subst e; exact absurd (Nat.one_dvd x) h2
      · omega
    have dm := Nat.div_add_mod (x - t) s
    have rl := Nat.mod_lt (x - t) h3
    have r0 : 0 < (x - t) % s := by
      refine Nat.pos_of_ne_zero fun z => h2 ?_
      have d := Nat.dvd_add hs (Nat.dvd_of_mod_eq_zero z)
      rw [show t + (x - t) = x by omega] at d
      exact d
    have ex : x = t + s * ((x - t) / s) + (x - t) % s := by omega
    have eg : Nat.gcd s x = Nat.gcd s ((x - t) % s) := by
      have := gcd_of (q := (x - t) / s) (r := (x - t) % s) hs
      rw [← ex] at this
      exact this
    have st := Dec.step (t := t) (q := (x - t) / s) (L := big (euOut (Nat.gcd s x) x o)) (out := o) s1 r0 rl (by rw [← eg, ← ex]; exact ih)
    rw [← ex] at st
    have el : big (euOut s t (x :: o)) = List.replicate ((x - t) / s) s ++ (big (eu s ((x - t) % s)) ++ big (euOut (Nat.gcd s x) x o)) := by
      show big (K42.eu (x - t) s ++ euOut (Nat.gcd s x) x o) = _
      rw [eu_pos h3, big_app, big_app, big_rep s1, List.append_assoc]
    rw [el]
    exact st
theorem eu_all_len : ∀ (o : List Nat) (s t : Nat), Inc t o → 0 < s → (euOut s t o).length ≤ (o.getLastD t - t) + o.length * s
  | [], s, t, _, _ => by simp [euOut]
  | x :: o, s, t, ⟨h1, h2⟩, h3 => by
    have ih := eu_all_len o (Nat.gcd s x) x h2 (Nat.gcd_pos_of_pos_left _ h3)
    have l1 := eu_len s (x - t)
    have gl := Nat.gcd_le_left x (m := s) h3
    have m := Nat.mul_le_mul_left o.length gl
    have inc : ∀ (o : List Nat) (t : Nat), Inc t o → t ≤ o.getLastD t := fun o => by
      induction o with
      | nil => intro t _; exact Nat.le_refl _
      | cons y o iho =>
        intro t ⟨g1, g2⟩
        have := iho y g2
        rw [List.getLastD_cons]
        omega
    have i2 := inc o x h2
    show (K42.eu (x - t) s ++ euOut (Nat.gcd s x) x o).length ≤ _
    rw [List.length_append, List.getLastD_cons, List.length_cons, Nat.succ_mul]
    omega
end K42
set_option maxHeartbeats 0
namespace K42
open PySem PySem.Spec PyProof.Rows L2 He TC Evl
def gF (ns : List Int) : Nat → Int
  | 0 => sN ns 0
  | 1 => sN ns 1
  | k + 2 => gF ns (k + 1) * (sS ns k).fdiv (sS ns (k + 1)) + sN ns (k + 2) - sN ns (k + 1)
def genUp (ns : List Int) (k : Nat) : List Int := (List.range k).map (gF ns)
def genOf (ns : List Int) : List Int := genUp ns ns.length
theorem genUp_len (ns : List Int) (k : Nat) : (genUp ns k).length = k := by unfold genUp; simp
theorem genUp_succ (ns : List Int) (k : Nat) : genUp ns (k + 1) = genUp ns k ++ [gF ns k] := by
  unfold genUp
  rw [List.range_succ, List.map_append]
  rfl
/-- a row whose generators can be reckoned -/
structure GenRow (ns : List Int) : Prop where
  len : ns.length ≤ 5
  pos : 0 < ns.length
  s0 : ∀ k, k < ns.length → 0 < sS ns k
  s1 : ∀ k, k < ns.length → sS ns k < 2 ^ 30
  g : ∀ k, k < ns.length → -(2 ^ 60) < gF ns k ∧ gF ns k < 2 ^ 60
section
variable {w : World} {h0 base : Heap} {K : PySem.W.Frag} {mg : Str → Option Value}
theorem ep_slA {σ : L2.St} {H : Hp} {te : TE} {a : Addr} {xs : List V} {lo hi : Option Int} {tl th : TO} (h : Ev te σ H (.ref a)) (h1 : EvO tl σ H lo) (h2 : EvO th σ H hi) (hs : SqT K H a xs) : EvP (tSl (rSlA K) te tl th) σ H (fun v H1 => ∃ p, v = .ref p ∧ SqT K H1 p (cutV xs lo hi)) := fun H1 e Q q =>
  h H1 e _ fun H2 e2 => h1 H2 (e.trans e2) _ fun H3 e3 => h2 H3 ((e.trans e2).trans e3) _ fun H4 e4 => by
    have E4 := ((e.trans e2).trans e3).trans e4
    refine ⟨a, xs, rfl, ex_t E4 hs, fun hw => q _ H4 ((e2.trans e3).trans e4) ⟨a, rfl, ?_⟩, fun _ p hp => q _ _ (((e2.trans e3).trans e4).trans (Ex.new hp)) ⟨p, rfl, st_of upd_same⟩⟩
    have e5 : cutV xs lo hi = xs := by
      unfold cutV
      rw [hw.1, hw.2, Nat.sub_zero, List.drop_zero, List.take_length]
    rw [e5]
    exact ex_t E4 hs
theorem el_listP {σ : L2.St} {H : Hp} {te : TE} {xs : List V} (h : EvP te σ H (fun v H1 => ∃ p, v = .ref p ∧ SqT K H1 p xs)) : EvL (tCB (fun xs H Q => ∃ p ys, xs = [.ref p] ∧ (SqL K H p ys ∨ SqT K H p ys) ∧ ∀ l, H l = none → Q (.ref l) (upd H l (.lst ys))) (tCons te tNil)) σ H xs := fun H1 e Q q =>
  h H1 e _ fun v H2 e2 ⟨p, ev, hp⟩ => by
    subst ev
    exact ⟨p, xs, rfl, .inr hp, fun l hl => q l _ (fresh_back e2 hl) (e2.trans (Ex.new hl)) upd_same⟩
theorem take2 {ns : List Int} : ns.take 2 = genUp ns (min 2 ns.length) := by
  match ns with
  | [] => rfl
  | [n] => rfl
  | n :: m :: r =>
    have e : min 2 (n :: m :: r).length = 2 := by simp
    rw [e]
    rfl
theorem cut2 {ns : List Int} : cutV (ns.map V.int) none (some 2) = (genUp ns (min 2 ns.length)).map V.int := by
  rw [← take2, List.map_take]
  unfold cutV
  have e2 : HT.sIx (ns.map V.int).length (ns.map V.int).length (some 2) = min 2 (ns.map V.int).length := HT.sIx_nat _ _ 2
  rw [HT.sIx_none, e2, List.drop_zero, Nat.sub_zero]
  by_cases h : 2 ≤ (ns.map V.int).length
  · rw [Nat.min_eq_left h]
  · rw [Nat.min_eq_right (by omega), List.take_of_length_le (Nat.le_refl _), List.take_of_length_le (by omega)]
def sp_generators_of (K : PySem.W.Frag) : Sp := fun vs H Q _ => ∃ (a : Addr) (ns : List Int), vs = [.ref a] ∧ SqT K H a (ns.map V.int) ∧ GenRow ns ∧ RetL ((genOf ns).map V.int) H Q
theorem ok_generators_of (T : Wk h0 K mg base) : ClC CX0 PP w K mg base 2 "generators_of" ["row"] (sp_generators_of K) := by
  obtain ⟨fd, F⟩ := f_generators_of T
  refine ⟨_, fd, g_generators_of T, F.kp, F.bindsN (fun _ _ _ _ _ _ us hl => match us, hl with | [_], _ => rfl), F.ok sc_generators_of (fun vs H Q E h => ?_) (fun cdv A outer s H vs Q E hr h => ⟨_, PSs.nox (pss_cons (ps_par (i := 1) (j := 2) (by rfl) sc_generators_of.nd rfl rfl (by decide) rfl rfl (pa_cons (pe_cl (ok_shares_of T) hr (by decide) (by rfl) (pa_cons (pv 0) pa_nil)) (pa_cons (pe_callTy call_list_of (by rfl) (m_list T) (by decide +kernel) (pa_cons (pe_slice sl_tupA (pv 0) po_none (po_some (pe_int))) pa_nil)) pa_nil)) (by rfl)) (pss_cons (ps_for PassesOwn.never rfl (pi_range2 (by rfl) (m_range T) (pa_cons (pe_int) (pa_cons (pe_callB (call_lenK (K := K) rfl) (by rfl) (m_len T) boot_len (pa_cons (pv 0) pa_nil)) pa_nil))) (pg_name (i := 3) sc_generators_of.nd rfl (Or.inl rfl)) (pss_one (ps_expr (pe_bm PySem.F.plainAttrs_list PySem.F.slot_list_append PySem.F.type_list_append mt_append (pv 2) (pa_cons (pe_op op_sub (pe_op op_add (pe_op op_mul (pe_ix (ix_seqK (K := K) rfl) (pv 2) (pe_un un_neg (pe_int)) (fun _ _ => rfl)) (pe_op op_fdivN (pe_ix (ix_seqK (K := K) rfl) (pv 1) (pe_op op_sub (pv 3) (pe_int)) (fun _ _ => rfl)) (pe_ix (ix_seqK (K := K) rfl) (pv 1) (pe_op op_sub (pv 3) (pe_int)) (fun _ _ => rfl)))) (pe_ix (ix_seqK (K := K) rfl) (pv 0) (pv 3) (fun _ _ => rfl))) (pe_ix (ix_seqK (K := K) rfl) (pv 0) (pe_op op_sub (pv 3) (pe_int)) (fun _ _ => rfl))) pa_nil))))) (pss_one (ps_ret (pv 2))))), ?_⟩)⟩
  · obtain ⟨a, ns, rfl, _⟩ := h; rfl
  · obtain ⟨a, ns, rfl, sq, ok, hQ⟩ := h
    have hl5 := ok.len
    refine q_parLL (el_shares (b := true) (ev_var rfl) sq (by omega)) (el_listP (ep_slA (ev_var rfl) eo_none (eo_some ev_c) sq)) fun l f H1 hl hf e1 hl1 hf1 => ?_
    rw [cut2] at hf1
    have slen : (shares ns).length = ns.length := shGo_len ns 0
    refine q_forR2 (lo := 2) (n := (ns.length : Int)) (ea2 ev_c (ev_is (ev_lenA (b := true) (ev_var rfl) (ex_t e1 sq)) (by rw [List.length_map]))) ⟨by decide, by decide, by omega, by omega⟩
      (fun i σ' H' => ∃ (x3 : Option V), σ' = [some (.ref a), some (.ref l), some (.ref f), x3] ∧ Ex H H' ∧ H' l = some (.lst ((shares ns).map V.int)) ∧ H' f = some (.lst ((genUp ns (min 2 ns.length + i)).map V.int)))
      (fun H2 e2 => ⟨none, rfl, e1.trans e2, e2 l _ hl1, e2 f _ hf1⟩) (fun i σ' H' hi ⟨x3, es, e, hl2, hf2⟩ => ?_) (fun σ' H' ⟨x3, es, e, hl2, hf2⟩ => ?_)
    · subst es
      have hi' : i + 2 < ns.length := by omega
      have ei : (2 : Int) + (i : Int) = ((i + 2 : Nat) : Int) := by omega
      rw [ei]
      have em : min 2 ns.length + i = i + 2 := by omega
      rw [em] at hf2
      have shi : ∀ {σ : L2.St} {te ti : TE} {H2 : Hp} {i : Nat}, Ex H' H2 → i < ns.length → Ev te σ H2 (.ref l) → Ev ti σ H2 (.int (i : Int)) → Ev (tOp (rIxA K) te ti) σ H2 (.int (sS ns i)) := fun {σ te ti H' i} e hi h h2 => ev_ixA h h2 (SqB.l (sq_of (e l _ hl2))) (atI_int (by omega))
      have rwi : ∀ {σ : L2.St} {te ti : TE} {H2 : Hp} {i : Nat}, Ex H H2 → i < ns.length → Ev te σ H2 (.ref a) → Ev ti σ H2 (.int (i : Int)) → Ev (tOp (rIxA K) te ti) σ H2 (.int (sN ns i)) := fun {σ te ti H' i} e hi h h2 => ev_ixA (b := true) h h2 (ex_t e sq) (atI_int hi)
      have s0 := ok.s0 (i + 1) (by omega)
      have s1 := ok.s1 (i + 1) (by omega)
      have g1 := ok.g (i + 1) (by omega)
      have hlf : l ≠ f := fun z => by
        have h1 := hl1; have h2 := hf1
        rw [z, h2] at h1
        have h3 := congrArg (fun o : Option HO => match o with | some (.lst ys) => ys.length | _ => 0) h1
        simp [genUp_len] at h3
        omega
      refine s_app (v := .int (gF ns (i + 2))) hf2 (ev_var rfl) (ev_op (x := .int (gF ns (i + 1) * (sS ns i).fdiv (sS ns (i + 1)) + sN ns (i + 2))) (y := .int (sN ns (i + 1))) (ev_op (x := .int (gF ns (i + 1) * (sS ns i).fdiv (sS ns (i + 1)))) (y := .int (sN ns (i + 2)))
        (ev_op (x := .int (gF ns (i + 1))) (y := .int ((sS ns i).fdiv (sS ns (i + 1)))) (ev_ixA (ev_var rfl) (ev_un ev_c ru_neg) (SqB.l (sq_of hf2)) (atI_m1 ?_)) (ev_op (shi (i := i) (Ex.refl _) (by omega) (ev_var rfl) (ev_is (ev_op (ev_var rfl) ev_c rv_I0) (by congr 1; omega))) (shi (i := i + 1) (Ex.refl _) (by omega) (ev_var rfl) (ev_is (ev_op (ev_var rfl) ev_c rv_I0) (by congr 1; omega))) (rv_I ⟨by omega, by omega⟩)) (rv_I (cmul (.inl g1))))
        (rwi (i := i + 2) e hi' (ev_var rfl) (ev_var rfl)) rv_I0) (rwi (i := i + 1) e (by omega) (ev_var rfl) (ev_is (ev_op (ev_var rfl) ev_c rv_I0) (by congr 1; omega))) rv_I0) (by rw [List.length_map, genUp_len]; omega) fun H2 e2 => ?_
      · rw [List.length_map, genUp_len, List.getElem?_map]
        unfold genUp
        rw [List.getElem?_map]
        have : (List.range (i + 2))[i + 2 - 1]? = some (i + 1) := by simp
        rw [this]
        rfl
      · refine ⟨_, rfl, Ex.mut (e.trans e2) hf, by rw [upd_ne hlf]; exact e2 l _ hl2, ?_⟩
        have em2 : min 2 ns.length + (i + 1) = i + 2 + 1 := by omega
        have eg := genUp_succ ns (i + 2)
        rw [em2, eg, List.map_append]
        exact upd_same
    · subst es
      have en : min 2 ns.length + ((ns.length : Int) - 2).toNat = ns.length := by have := ok.pos; omega
      rw [en] at hf2
      exact s_ret (ev_var rfl) fun H2 e2 => hQ f H2 hf (e.trans e2) (e2 f _ hf2)
theorem el_zshares {te : TE} {σ : L2.St} {b : Bool} {a : Addr} {ns : List Int} {H : Hp} (h : Ev te σ H (.ref a)) (sq : SqB K H b a (ns.map V.int)) (hl : ns.length ≤ 40000) : EvL (tCall (sp_shares_of K) [] E0 (tCons te tNil)) σ H ((shares ns).map V.int) := el_shares h sq hl
end
end K42
set_option maxHeartbeats 0
namespace K42
open PySem PySem.Spec PyProof.Rows L2 He TC Evl
def iN (l : List Nat) : List Int := l.map (fun n : Nat => (n : Int))
theorem iN_len (l : List Nat) : (iN l).length = l.length := List.length_map ..
theorem iN_at {l : List Nat} {i : Nat} : sN (iN l) i = ((l.getD i 0 : Nat) : Int) := by
  show (l.map _).getD i 0 = _
  rw [List.getD_eq_getElem?_getD, List.getElem?_map, List.getD_eq_getElem?_getD]
  cases l[i]? <;> rfl
theorem iN_app (l m : List Nat) : iN (l ++ m) = iN l ++ iN m := List.map_append ..
def shn (n : Nat) (rest : List Nat) : Nat → Nat
  | 0 => n
  | i + 1 => Nat.gcd (shn n rest i) (rest.getD i 0)
def tn (rest : List Nat) : Nat → Nat
  | 0 => 0
  | i + 1 => rest.getD i 0
theorem sS_iN {n : Nat} {rest : List Nat} : ∀ i, i < rest.length + 1 → sS (iN (n :: rest)) i = (shn n rest i : Int)
  | 0, _ => by rw [sS_zero (by rw [iN_len]; simp), iN_at]; simp [shn]
  | i + 1, h => by
    have hl : (iN (n :: rest)).length = rest.length + 1 := by rw [iN_len]; rfl
    rw [sS_next (by omega), sS_iN i (by omega), iN_at]
    rfl
theorem shn_pos {n : Nat} {rest : List Nat} (h : 0 < n) : ∀ i, 0 < shn n rest i ∧ shn n rest i ≤ n
  | 0 => ⟨h, Nat.le_refl _⟩
  | i + 1 => by
    have ih := shn_pos (rest := rest) h i
    exact ⟨Nat.gcd_pos_of_pos_left _ ih.1, Nat.le_trans (Nat.gcd_le_left _ ih.1) ih.2⟩
theorem drop_at {rest : List Nat} {i : Nat} (h : i < rest.length) : rest.drop i = rest.getD i 0 :: rest.drop (i + 1) := by
  rw [List.drop_eq_getElem_cons h, List.getD_eq_getElem?_getD, List.getElem?_eq_getElem h]; rfl
theorem inc_at : ∀ {rest : List Nat} {t : Nat}, Inc t rest → ∀ i, i < rest.length → (match i with | 0 => t | k + 1 => rest.getD k 0) < rest.getD i 0
  | x :: o, t, ⟨h1, h2⟩, 0, _ => h1
  | x :: o, t, ⟨h1, h2⟩, i + 1, h => by
    have := inc_at h2 i (by simpa using h)
    cases i with
    | zero => exact this
    | succ i => exact this
theorem tn_lt {rest : List Nat} (h : Inc 0 rest) {i : Nat} (hi : i < rest.length) : tn rest i < rest.getD i 0 := by
  have := inc_at h i hi
  cases i with
  | zero => exact this
  | succ i => exact this
structure MulRow (n : Nat) (rest : List Nat) : Prop where
  pos : 0 < n
  inc : Inc 0 rest
  len : rest.length ≤ 300
  small : n < 2 ^ 29
  tot : (euOut n 0 rest).length ≤ 40000
theorem given_filter {D : List Nat} {p : Nat → Bool} : given D.length (fun i => p (D.getD i 0)) (fun i => .int ((D.getD i 0 : Nat) : Int)) = (iN (D.filter p)).map V.int := by
  unfold given iN
  have e := range_getD (fun x : Nat => x) 0 D
  rw [List.map_id'] at e
  have h2 : D.filter p = ((List.range D.length).filter (fun i => p (D.getD i 0))).map (fun i => D.getD i 0) := by
    conv => lhs; rw [← e]
    rw [List.filter_map]
    rfl
  rw [h2, List.map_map, List.map_map]
  rfl
theorem cast_div (a c : Nat) : (a : Int).fdiv (c : Int) = ((a / c : Nat) : Int) := by
  rw [Int.fdiv_eq_ediv_of_nonneg _ (by omega)]; rfl
theorem cast_mod (a c : Nat) : (a : Int).fmod (c : Int) = ((a % c : Nat) : Int) := by
  rw [Int.fmod_eq_emod_of_nonneg _ (by omega)]; rfl
section
variable {w : World} {h0 base : Heap} {K : PySem.W.Frag} {mg : Str → Option Value}
theorem el_rep {σ : L2.St} {H : Hp} {te tx : TE} {xs : List V} {k : Int} (h : EvL te σ H xs) (hk : Ev tx σ H (.int k)) (h0 : 0 ≤ k) (h1 : k ≤ 100000) (hz : xs.length * k.toNat ≤ 100000) : EvL (tOp rRep te tx) σ H (List.replicate k.toNat xs).flatten := fun H1 e Q q =>
  h H1 e _ fun a H2 ha e2 h2 => hk H2 (e.trans e2) _ fun H3 e3 => ⟨a, k, xs, rfl, rfl, e3 _ _ h2, by omega, by omega, sz_of hz, fun p hp => q p _ (fresh_back (e2.trans e3) hp) ((e2.trans e3).trans (Ex.new hp)) upd_same⟩
theorem rep_one {α : Type} (x : α) : ∀ n : Nat, (List.replicate n [x]).flatten = List.replicate n x
  | 0 => rfl
  | n + 1 => by rw [List.replicate_succ, List.flatten_cons, rep_one x n]; rfl
/-- [c] * k -/
theorem el_rep1 {σ : L2.St} {H : Hp} {te tx : TE} {x : V} {k : Nat} (h : Ev te σ H x) (hk : Ev tx σ H (.int k)) (h1 : k ≤ 100000) : EvL (tOp rRep (tLst (tCons te tNil)) tx) σ H (List.replicate k x) := by
  have := el_rep (el_lst (ea1 h) (by show (1 : Nat) ≤ 100000; decide)) hk (by omega) (by omega) (by show 1 * _ ≤ 100000; omega)
  rw [Int.toNat_natCast, rep_one] at this
  exact this
end
end K42
set_option maxHeartbeats 0
namespace K42
open PySem PySem.Spec PyProof.Rows L2 He TC Evl
theorem bez (a b : Nat) : ∃ x y : Int, (Nat.gcd a b : Int) = x * a + y * b := by
  induction a, b using Nat.gcd.induction with
  | H0 n => exact ⟨0, 1, by simp⟩
  | H1 m n hm ih =>
    obtain ⟨x, y, h⟩ := ih
    refine ⟨y - x * ((n / m : Nat) : Int), x, ?_⟩
    have e1 : Nat.gcd m n = Nat.gcd (n % m) m := Nat.gcd_rec m n
    have e2 : (n : Int) = (m : Int) * ((n / m : Nat) : Int) + ((n % m : Nat) : Int) := by
      have := Nat.div_add_mod n m
      have h2 : ((m * (n / m) + n % m : Nat) : Int) = (n : Int) := congrArg Int.ofNat this
      rw [← h2, Int.natCast_add, Int.natCast_mul]
    have e3 : ((n % m : Nat) : Int) = (n : Int) - (m : Int) * ((n / m : Nat) : Int) := by omega
    rw [e1, h, e3, Int.mul_sub, Int.sub_mul, Int.mul_comm (m : Int), Int.mul_assoc]
    omega
section
variable {m v d : Nat} {k : Int}
theorem part_pos (hg : Nat.gcd m v = d) (hm : 0 < m) : 0 < d ∧ m = (m / d) * d ∧ 0 < m / d := by
  have hd : 0 < d := hg ▸ Nat.gcd_pos_of_pos_left v hm
  have hdv : d ∣ m := hg ▸ Nat.gcd_dvd_left m v
  have e := Nat.div_mul_cancel hdv
  exact ⟨hd, e.symm, Nat.div_pos (Nat.le_of_dvd hm hdv) hd⟩
theorem part_mul (hg : Nat.gcd m v = d) (hm : 0 < m) : m ∣ (m / d) * v := by
  obtain ⟨hd, e, _⟩ := part_pos hg hm
  have hv : d ∣ v := hg ▸ Nat.gcd_dvd_right m v
  obtain ⟨c, hc⟩ := hv
  refine ⟨c, ?_⟩
  rw [hc, ← Nat.mul_assoc, ← e]
theorem dig_uni (hg : Nat.gcd m v = d) (hm : 0 < m) {t t' : Nat} (ht : t < m / d) (ht' : t' < m / d) (h : (m : Int) ∣ k - t * v) (h' : (m : Int) ∣ k - t' * v) : t = t' := by
  obtain ⟨hd, e, _⟩ := part_pos hg hm
  obtain ⟨x, y, hb⟩ := bez m v
  rw [hg] at hb
  have h1 : (m : Int) ∣ ((t : Int) - t') * v := by
    have := Int.dvd_sub h' h
    have e2 : k - (t' : Int) * v - (k - t * v) = ((t : Int) - t') * v := by rw [Int.sub_mul]; omega
    rw [e2] at this
    exact this
  have h2 : (m : Int) ∣ ((t : Int) - t') * d := by
    rw [hb, Int.mul_add]
    refine Int.dvd_add ?_ ?_
    · rw [← Int.mul_assoc]; exact Int.dvd_mul_left _ _
    · rw [Int.mul_comm y, ← Int.mul_assoc]; exact Int.dvd_mul_of_dvd_left h1
  have h3 : ((m / d : Nat) : Int) ∣ ((t : Int) - t') := by
    have e3 : (m : Int) = ((m / d : Nat) : Int) * (d : Int) := by rw [← Int.natCast_mul, ← e]
    rw [e3] at h2
    exact Int.dvd_of_mul_dvd_mul_right (by omega) h2
  obtain ⟨c, hc⟩ := h3
  have : c = 0 := by
    rcases Int.lt_trichotomy c 0 with h | h | h
    · have : ((m / d : Nat) : Int) * c ≤ ((m / d : Nat) : Int) * (-1) := Int.mul_le_mul_of_nonneg_left (by omega) (by omega)
      omega
    · exact h
    · have : ((m / d : Nat) : Int) * 1 ≤ ((m / d : Nat) : Int) * c := Int.mul_le_mul_of_nonneg_left (by omega) (by omega)
      omega
  rw [this, Int.mul_zero] at hc
  omega
theorem dig_ex (hg : Nat.gcd m v = d) (hm : 0 < m) (hk : (d : Int) ∣ k) : ∃ t : Nat, t < m / d ∧ (m : Int) ∣ k - t * v := by
  obtain ⟨hd, e, hq⟩ := part_pos hg hm
  obtain ⟨x, y, hb⟩ := bez m v
  rw [hg] at hb
  obtain ⟨c, rfl⟩ := hk
  have hq' : (0 : Int) < ((m / d : Nat) : Int) := by omega
  have hn : 0 ≤ (c * y) % ((m / d : Nat) : Int) := Int.emod_nonneg _ (by omega)
  have hl : (c * y) % ((m / d : Nat) : Int) < ((m / d : Nat) : Int) := Int.emod_lt_of_pos _ hq'
  obtain ⟨t, ht⟩ : ∃ t : Nat, (t : Int) = (c * y) % ((m / d : Nat) : Int) := ⟨((c * y) % ((m / d : Nat) : Int)).toNat, by omega⟩
  refine ⟨t, by omega, ?_⟩
  have hdm := Int.emod_add_mul_ediv (c * y) ((m / d : Nat) : Int)
  have hpm : (m : Int) ∣ ((m / d : Nat) : Int) * (v : Int) := by
    rw [← Int.natCast_mul]; exact Int.natCast_dvd_natCast.mpr (part_mul hg hm)
  obtain ⟨z, hz⟩ := hpm
  refine ⟨x * c + z * ((c * y) / ((m / d : Nat) : Int)), ?_⟩
  rw [ht]
  have e4 : (c * y) % ((m / d : Nat) : Int) = c * y - ((m / d : Nat) : Int) * ((c * y) / ((m / d : Nat) : Int)) := by omega
  rw [e4, hb, Int.sub_mul, Int.add_mul, Int.mul_add]
  have e5 : ((m / d : Nat) : Int) * ((c * y) / ((m / d : Nat) : Int)) * (v : Int) = (m : Int) * (z * ((c * y) / ((m / d : Nat) : Int))) := by
    rw [Int.mul_right_comm, hz, Int.mul_assoc]
  rw [e5]
  have e6 : y * (v : Int) * c = c * y * v := by rw [Int.mul_comm, ← Int.mul_assoc]
  have e7 : x * (m : Int) * c = m * (x * c) := by rw [Int.mul_comm x, Int.mul_assoc]
  rw [e6, e7]
  omega
end
/-- the least t from a on, below a + f -/
def lst (p : Nat → Bool) : Nat → Nat → Nat
  | 0, a => a
  | f + 1, a => if p a = true then a else lst p f (a + 1)
theorem lst_spec {p : Nat → Bool} : ∀ (f a t : Nat), a ≤ t → t < a + f → p t = true → (p (lst p f a) = true ∧ a ≤ lst p f a ∧ lst p f a ≤ t ∧ ∀ s, a ≤ s → s < lst p f a → p s = false)
  | 0, a, t, h1, h2, _ => by omega
  | f + 1, a, t, h1, h2, hp => by
    show _ ∧ _
    unfold lst
    by_cases h : p a = true
    · rw [if_pos h]
      exact ⟨h, Nat.le_refl _, h1, fun s h3 h4 => by omega⟩
    · rw [if_neg h]
      have hne : a ≠ t := fun z => h (z ▸ hp)
      obtain ⟨q1, q2, q3, q4⟩ := lst_spec f (a + 1) t (by omega) (by omega) hp
      refine ⟨q1, by omega, q3, fun s h3 h4 => ?_⟩
      by_cases z : s = a
      · rw [z]; simpa using h
      · exact q4 s (by omega) h4
section
variable (e v : Nat → Nat)
/-- how often v (i + 1) is taken from k -/
def dg (i : Nat) (k : Int) : Nat := lst (fun t => decide ((k - t * (v (i + 1) : Int)) % (e i : Int) = 0)) (e i / e (i + 1)) 0
def T0 : Nat → Int → Int
  | 0, k => k / (e 0 : Int)
  | i + 1, k => T0 i (k - (dg e v i k : Int) * (v (i + 1) : Int))
def Sg : Nat → Int → Prop
  | 0, k => ∃ t : Nat, k = t * (e 0 : Int)
  | i + 1, k => ∃ (u : Int) (t : Nat), Sg i u ∧ t < e i / e (i + 1) ∧ k = u + t * (v (i + 1) : Int)
def Fr : Nat → Int
  | 0 => -(e 0 : Int)
  | i + 1 => Fr i + (((e i / e (i + 1) : Nat) : Int) - 1) * (v (i + 1) : Int)
structure Tel (g : Nat) : Prop where
  v0 : v 0 = e 0
  pos : 0 < e 0
  sh : ∀ i, i < g → Nat.gcd (e i) (v (i + 1)) = e (i + 1)
  up : ∀ i, i + 1 < g → (e i / e (i + 1)) * v (i + 1) < v (i + 2)
end
section
variable {e v : Nat → Nat} {g : Nat}
theorem Tel.epos (T : Tel e v g) : ∀ i, i ≤ g → 0 < e i
  | 0, _ => T.pos
  | i + 1, h => by rw [← T.sh i h]; exact Nat.gcd_pos_of_pos_left _ (T.epos i (by omega))
theorem Tel.dv (T : Tel e v g) {i : Nat} (h : i < g) : e (i + 1) ∣ e i := T.sh i h ▸ Nat.gcd_dvd_left _ _
theorem Tel.dvv (T : Tel e v g) : ∀ i, i ≤ g → e i ∣ v i
  | 0, _ => T.v0 ▸ Nat.dvd_refl _
  | i + 1, h => T.sh i h ▸ Nat.gcd_dvd_right _ _
theorem dvd_i {a b : Nat} (h : a ∣ b) : (a : Int) ∣ (b : Int) := Int.natCast_dvd_natCast.mpr h
theorem Tel.dig (T : Tel e v g) {i : Nat} (h : i < g) {k : Int} (hk : (e (i + 1) : Int) ∣ k) : dg e v i k < e i / e (i + 1) ∧ (e i : Int) ∣ k - (dg e v i k : Int) * (v (i + 1) : Int) ∧ ∀ t, t < dg e v i k → ¬ (e i : Int) ∣ k - (t : Int) * (v (i + 1) : Int) := by
  obtain ⟨t, h1, h2⟩ := dig_ex (T.sh i h) (T.epos i (by omega)) hk
  obtain ⟨q1, q2, q3, q4⟩ := lst_spec (p := fun t => decide ((k - t * (v (i + 1) : Int)) % (e i : Int) = 0)) (e i / e (i + 1)) 0 t (Nat.zero_le _) (by omega) (decide_eq_true (Int.emod_eq_zero_of_dvd h2))
  refine ⟨Nat.lt_of_le_of_lt q3 h1, Int.dvd_of_emod_eq_zero (of_decide_eq_true q1), fun s hs hd => ?_⟩
  have := q4 s (Nat.zero_le _) hs
  exact absurd (Int.emod_eq_zero_of_dvd hd) (of_decide_eq_false this)
theorem Tel.dig_eq (T : Tel e v g) {i : Nat} (h : i < g) {k : Int} (hk : (e (i + 1) : Int) ∣ k) {t : Nat} (ht : t < e i / e (i + 1)) (hd : (e i : Int) ∣ k - (t : Int) * (v (i + 1) : Int)) : dg e v i k = t := by
  obtain ⟨q1, q2, _⟩ := T.dig h hk
  exact dig_uni (T.sh i h) (T.epos i (by omega)) q1 ht q2 hd
theorem Tel.sdv (T : Tel e v g) : ∀ i, i ≤ g → ∀ k, Sg e v i k → (e i : Int) ∣ k ∧ 0 ≤ k
  | 0, _, k, ⟨t, h⟩ => by
    subst h
    exact ⟨Int.dvd_mul_left _ _, Int.mul_nonneg (by omega) (by omega)⟩
  | i + 1, h, k, ⟨u, t, h1, h2, h3⟩ => by
    obtain ⟨q1, q2⟩ := T.sdv i (by omega) u h1
    subst h3
    have q3 : (0 : Int) ≤ (t : Int) * (v (i + 1) : Int) := Int.mul_nonneg (by omega) (by omega)
    exact ⟨Int.dvd_add (Int.dvd_trans (dvd_i (T.dv h)) q1) (Int.dvd_trans (dvd_i (T.dvv (i + 1) h)) (Int.dvd_mul_left _ _)), by omega⟩
theorem Tel.fdv (T : Tel e v g) : ∀ i, i ≤ g → (e i : Int) ∣ Fr e v i
  | 0, _ => (Int.dvd_neg).mpr (Int.dvd_refl _)
  | i + 1, h => Int.dvd_add (Int.dvd_trans (dvd_i (T.dv h)) (T.fdv i (by omega))) (Int.dvd_trans (dvd_i (T.dvv (i + 1) h)) (Int.dvd_mul_left _ _))
theorem Tel.sym (T : Tel e v g) : ∀ i, i ≤ g → ∀ k : Int, (e i : Int) ∣ k → T0 e v i (Fr e v i - k) = -1 - T0 e v i k
  | 0, _, k, hk => by
    obtain ⟨c, rfl⟩ := hk
    have hp := T.pos
    show (-(e 0 : Int) - (e 0 : Int) * c) / (e 0 : Int) = -1 - ((e 0 : Int) * c) / (e 0 : Int)
    have e1 : -(e 0 : Int) - (e 0 : Int) * c = (e 0 : Int) * (-1 - c) := by rw [Int.mul_sub]; omega
    rw [e1, Int.mul_ediv_cancel_left _ (by omega), Int.mul_ediv_cancel_left _ (by omega)]
  | i + 1, h, k, hk => by
    obtain ⟨q1, q2, _⟩ := T.dig h hk
    have hN : ((e i / e (i + 1) - 1 - dg e v i k : Nat) : Int) = ((e i / e (i + 1) : Nat) : Int) - 1 - (dg e v i k : Int) := by omega
    have hf := T.fdv i (by omega)
    have eq : Fr e v (i + 1) - k - ((e i / e (i + 1) - 1 - dg e v i k : Nat) : Int) * (v (i + 1) : Int) = Fr e v i - (k - (dg e v i k : Int) * (v (i + 1) : Int)) := by
      rw [hN]
      show Fr e v i + (((e i / e (i + 1) : Nat) : Int) - 1) * (v (i + 1) : Int) - k - _ = _
      rw [Int.sub_mul _ (dg e v i k : Int)]
      omega
    have hd : dg e v i (Fr e v (i + 1) - k) = e i / e (i + 1) - 1 - dg e v i k := by
      refine T.dig_eq h (Int.dvd_sub (T.fdv (i + 1) h) hk) (by omega) ?_
      rw [eq]
      exact Int.dvd_sub hf q2
    show T0 e v i (Fr e v (i + 1) - k - (dg e v i (Fr e v (i + 1) - k) : Int) * (v (i + 1) : Int)) = -1 - T0 e v i (k - (dg e v i k : Int) * (v (i + 1) : Int))
    rw [hd, eq]
    exact T.sym i (by omega) _ q2
theorem Tel.great (T : Tel e v g) : ∀ i, i ≤ g → ∀ k : Int, (e i : Int) ∣ k → Fr e v i < k → 0 ≤ T0 e v i k
  | 0, _, k, hk, h => by
    obtain ⟨c, rfl⟩ := hk
    have hp := T.pos
    have h' : -(e 0 : Int) < (e 0 : Int) * c := h
    show 0 ≤ ((e 0 : Int) * c) / (e 0 : Int)
    rw [Int.mul_ediv_cancel_left _ (by omega)]
    by_cases hc : 0 ≤ c
    · exact hc
    · have : (e 0 : Int) * c ≤ (e 0 : Int) * (-1) := Int.mul_le_mul_of_nonneg_left (by omega) (by omega)
      omega
  | i + 1, h, k, hk, hF => by
    obtain ⟨q1, q2, _⟩ := T.dig h hk
    refine T.great i (by omega) _ q2 ?_
    have hF' : Fr e v i + (((e i / e (i + 1) : Nat) : Int) - 1) * (v (i + 1) : Int) < k := hF
    have : (dg e v i k : Int) * (v (i + 1) : Int) ≤ (((e i / e (i + 1) : Nat) : Int) - 1) * (v (i + 1) : Int) := Int.mul_le_mul_of_nonneg_right (by omega) (by omega)
    omega
theorem Tel.iff (T : Tel e v g) : ∀ i, i ≤ g → ∀ k : Int, (e i : Int) ∣ k → (Sg e v i k ↔ 0 ≤ T0 e v i k)
  | 0, _, k, hk => by
    obtain ⟨c, rfl⟩ := hk
    have hp := T.pos
    have e1 : T0 e v 0 ((e 0 : Int) * c) = c := Int.mul_ediv_cancel_left _ (by omega)
    rw [e1]
    constructor
    · rintro ⟨t, ht⟩
      by_cases hc : 0 ≤ c
      · exact hc
      · have h1 : (e 0 : Int) * c ≤ (e 0 : Int) * (-1) := Int.mul_le_mul_of_nonneg_left (by omega) (by omega)
        have h2 : (0 : Int) ≤ (t : Int) * (e 0 : Int) := Int.mul_nonneg (by omega) (by omega)
        omega
    · intro hc
      exact ⟨c.toNat, by rw [Int.toNat_of_nonneg hc, Int.mul_comm]⟩
  | i + 1, h, k, hk => by
    obtain ⟨q1, q2, _⟩ := T.dig h hk
    show (∃ (u : Int) (t : Nat), Sg e v i u ∧ t < e i / e (i + 1) ∧ k = u + t * (v (i + 1) : Int)) ↔ 0 ≤ T0 e v i (k - (dg e v i k : Int) * (v (i + 1) : Int))
    rw [← T.iff i (by omega) _ q2]
    constructor
    · rintro ⟨u, t, h1, h2, h3⟩
      have hd : dg e v i k = t := T.dig_eq h hk h2 (by rw [h3, Int.add_sub_cancel]; exact (T.sdv i (by omega) u h1).1)
      rw [hd, h3, Int.add_sub_cancel]
      exact h1
    · intro h1
      exact ⟨_, dg e v i k, h1, q1, by omega⟩
theorem Tel.frl (T : Tel e v g) : ∀ i, i < g → Fr e v i < (v (i + 1) : Int)
  | 0, h => by
    have hp := T.pos
    show -(e 0 : Int) < _
    omega
  | i + 1, h => by
    have ih := T.frl i (by omega)
    have hu := T.up i h
    have hu' : ((e i / e (i + 1) : Nat) : Int) * (v (i + 1) : Int) < (v (i + 2) : Int) := by rw [← Int.natCast_mul]; exact Int.ofNat_lt.mpr hu
    show Fr e v i + (((e i / e (i + 1) : Nat) : Int) - 1) * (v (i + 1) : Int) < _
    rw [Int.sub_mul, Int.one_mul]
    have : (v (i + 1 + 1) : Int) = (v (i + 2) : Int) := rfl
    omega
theorem Tel.carry (T : Tel e v g) {i : Nat} (h : i < g) : Sg e v i (((e i / e (i + 1) : Nat) : Int) * (v (i + 1) : Int)) := by
  have hd : (e i : Int) ∣ ((e i / e (i + 1) : Nat) : Int) * (v (i + 1) : Int) := by
    rw [← Int.natCast_mul]; exact dvd_i (part_mul (T.sh i h) (T.epos i (by omega)))
  refine (T.iff i (by omega) _ hd).mpr (T.great i (by omega) _ hd ?_)
  have h1 := T.frl i h
  have h2 := (part_pos (T.sh i h) (T.epos i (by omega))).2.2
  have h3 : (1 : Int) * (v (i + 1) : Int) ≤ ((e i / e (i + 1) : Nat) : Int) * (v (i + 1) : Int) := Int.mul_le_mul_of_nonneg_right (by omega) (by omega)
  omega
theorem Tel.add (T : Tel e v g) : ∀ i, i ≤ g → ∀ a b : Int, Sg e v i a → Sg e v i b → Sg e v i (a + b)
  | 0, _, a, b, ⟨t, h1⟩, ⟨s, h2⟩ => ⟨t + s, by rw [h1, h2, Int.natCast_add, Int.add_mul]⟩
  | i + 1, h, a, b, ⟨u, t, h1, h2, h3⟩, ⟨u', t', h1', h2', h3'⟩ => by
    have hu := T.add i (by omega) u u' h1 h1'
    by_cases hl : t + t' < e i / e (i + 1)
    · exact ⟨u + u', t + t', hu, hl, by rw [h3, h3', Int.natCast_add, Int.add_mul]; omega⟩
    · refine ⟨u + u' + ((e i / e (i + 1) : Nat) : Int) * (v (i + 1) : Int), t + t' - e i / e (i + 1), T.add i (by omega) _ _ hu (T.carry h), by omega, ?_⟩
      have : ((t + t' - e i / e (i + 1) : Nat) : Int) = (t : Int) + t' - ((e i / e (i + 1) : Nat) : Int) := by omega
      rw [h3, h3', this, Int.sub_mul, Int.add_mul]
      omega
theorem Tel.zero (T : Tel e v g) : ∀ i, i ≤ g → Sg e v i 0
  | 0, _ => ⟨0, by simp⟩
  | i + 1, h => ⟨0, 0, T.zero i (by omega), (part_pos (T.sh i h) (T.epos i (by omega))).2.2, by simp⟩
theorem Tel.low (T : Tel e v g) {i : Nat} (h : i < g) {k : Int} (hs : Sg e v i k) : Sg e v (i + 1) k := ⟨k, 0, hs, (part_pos (T.sh i h) (T.epos i (by omega))).2.2, by simp⟩
theorem Tel.gen (T : Tel e v g) : ∀ i, i ≤ g → ∀ j, j ≤ i → Sg e v i (v j : Int)
  | 0, _, j, hj => by
    obtain rfl : j = 0 := by omega
    exact ⟨1, by rw [T.v0]; simp⟩
  | i + 1, h, j, hj => by
    by_cases z : j = i + 1
    · subst z
      by_cases hN : 1 < e i / e (i + 1)
      · exact ⟨0, 1, T.zero i (by omega), hN, by simp⟩
      · have e1 : e i / e (i + 1) = 1 := by
          have := (part_pos (T.sh i h) (T.epos i (by omega))).2.2
          omega
        have c := T.carry h
        rw [e1] at c
        refine T.low h ?_
        simpa using c
    · exact T.low h (T.gen i (by omega) j (by omega))
theorem Tel.pred (T : Tel e v g) : ∀ i, i ≤ g → ∀ k : Int, Sg e v i k → 0 < k → ∃ j, j ≤ i ∧ Sg e v i (k - (v j : Int))
  | 0, _, k, ⟨t, h⟩, hk => by
    have ht : 0 < t := by
      rcases Nat.eq_zero_or_pos t with z | z
      · subst z; simp at h; omega
      · exact z
    refine ⟨0, Nat.le_refl _, t - 1, ?_⟩
    have : ((t - 1 : Nat) : Int) = (t : Int) - 1 := by omega
    rw [this, Int.sub_mul, T.v0, h]
    omega
  | i + 1, h, k, ⟨u, t, h1, h2, h3⟩, hk => by
    rcases Nat.eq_zero_or_pos t with z | z
    · subst z
      have hu : k = u := by simp at h3; exact h3
      subst hu
      obtain ⟨j, hj, hs⟩ := T.pred i (by omega) k h1 hk
      exact ⟨j, by omega, T.low h hs⟩
    · refine ⟨i + 1, Nat.le_refl _, u, t - 1, h1, by omega, ?_⟩
      have : ((t - 1 : Nat) : Int) = (t : Int) - 1 := by omega
      rw [this, Int.sub_mul, h3]
      omega
end
end K42
set_option maxHeartbeats 0
namespace K42
open PySem PySem.Spec PyProof.Rows L2 He TC Evl
theorem gcd_shift {s c x y : Nat} (h1 : s ∣ c) (h2 : s ∣ y) (h3 : y ≤ c + x) : Nat.gcd s (c + x - y) = Nat.gcd s x := by
  refine Nat.dvd_antisymm (Nat.dvd_gcd (Nat.gcd_dvd_left _ _) ?_) (Nat.dvd_gcd (Nat.gcd_dvd_left _ _) ?_)
  · have d1 : Nat.gcd s (c + x - y) ∣ s := Nat.gcd_dvd_left _ _
    have d2 : Nat.gcd s (c + x - y) ∣ c + x - y := Nat.gcd_dvd_right _ _
    have d3 : Nat.gcd s (c + x - y) ∣ c + x := by
      have := Nat.dvd_add d2 (Nat.dvd_trans d1 h2)
      rwa [Nat.sub_add_cancel h3] at this
    exact (Nat.dvd_add_right (Nat.dvd_trans d1 h1)).mp d3
  · exact Nat.dvd_sub (Nat.dvd_add (Nat.dvd_trans (Nat.gcd_dvd_left _ _) h1) (Nat.gcd_dvd_right _ _)) (Nat.dvd_trans (Nat.gcd_dvd_left _ _) h2)
/-- generators -/
def vn (n : Nat) (rest : List Nat) : Nat → Nat
  | 0 => n
  | 1 => rest.getD 0 0
  | i + 2 => vn n rest (i + 1) * (shn n rest i / shn n rest (i + 1)) + rest.getD (i + 1) 0 - rest.getD i 0
structure Row (n : Nat) (rest : List Nat) : Prop where
  pos : 0 < n
  inc : Inc 0 rest
  one : shn n rest rest.length = 1
section
variable {n : Nat} {rest : List Nat}
theorem Row.up (R : Row n rest) {i : Nat} (h : i + 1 < rest.length) : rest.getD i 0 < rest.getD (i + 1) 0 := tn_lt R.inc (i := i + 1) h
theorem shn_dvx (i : Nat) : shn n rest (i + 1) ∣ rest.getD i 0 := Nat.gcd_dvd_right _ _
theorem Row.gcd (R : Row n rest) : ∀ i, i < rest.length → Nat.gcd (shn n rest i) (vn n rest (i + 1)) = shn n rest (i + 1)
  | 0, _ => rfl
  | i + 1, h => by
    have ih := R.gcd i (by omega)
    have hp := (shn_pos (rest := rest) R.pos i).1
    have hd : shn n rest (i + 1) ∣ vn n rest (i + 1) * (shn n rest i / shn n rest (i + 1)) := by
      rw [Nat.mul_comm]
      exact Nat.dvd_trans (ih ▸ Nat.gcd_dvd_left _ _) (part_mul ih hp)
    exact gcd_shift hd (shn_dvx i) (by have := R.up h; omega)
theorem Row.tel (R : Row n rest) : Tel (shn n rest) (vn n rest) rest.length := ⟨rfl, R.pos, R.gcd, fun i h => by
  have := R.up h
  show _ < vn n rest (i + 1) * (shn n rest i / shn n rest (i + 1)) + rest.getD (i + 1) 0 - rest.getD i 0
  rw [Nat.mul_comm]
  omega⟩
theorem Row.vFr (R : Row n rest) : ∀ i, i < rest.length → (vn n rest (i + 1) : Int) = Fr (shn n rest) (vn n rest) i + n + (rest.getD i 0 : Nat)
  | 0, _ => by
    show ((rest.getD 0 0 : Nat) : Int) = -(n : Int) + n + _
    omega
  | i + 1, h => by
    have ih := R.vFr i (by omega)
    have hu := R.up h
    have e1 : (vn n rest (i + 2) : Int) = (vn n rest (i + 1) : Int) * ((shn n rest i / shn n rest (i + 1) : Nat) : Int) + (rest.getD (i + 1) 0 : Nat) - (rest.getD i 0 : Nat) := by
      show ((vn n rest (i + 1) * (shn n rest i / shn n rest (i + 1)) + rest.getD (i + 1) 0 - rest.getD i 0 : Nat) : Int) = _
      rw [← Int.natCast_mul]
      omega
    show (vn n rest (i + 2) : Int) = Fr (shn n rest) (vn n rest) i + (((shn n rest i / shn n rest (i + 1) : Nat) : Int) - 1) * (vn n rest (i + 1) : Int) + n + _
    rw [e1, Int.sub_mul, Int.one_mul, Int.mul_comm (vn n rest (i + 1) : Int)]
    omega
/-- what a multiplicity gives -/
def mm (m : Nat) : Int := (m : Int) * ((m : Int) - 1)
theorem sum_rep (q s : Nat) : ((List.replicate q s).map mm).sum = (q : Int) * mm s := by
  induction q with
  | zero => simp
  | succ q ih =>
    rw [List.replicate_succ, List.map_cons, List.sum_cons, ih, Int.natCast_add, Int.add_mul]
    simp
    omega
theorem sum_app (l m : List Nat) : ((l ++ m).map mm).sum = (l.map mm).sum + (m.map mm).sum := by
  rw [List.map_append, List.sum_append]
theorem sum_eu : ∀ (c a : Nat), 0 < c → ((eu a c).map mm).sum + a + c = (a : Int) * c + (Nat.gcd a c : Nat) := fun c => by
  induction c using Nat.strongRecOn with
  | ind c ih =>
    intro a hc
    rw [eu_pos hc, sum_app, sum_rep]
    have hdm := Nat.div_add_mod a c
    have hg : Nat.gcd a c = Nat.gcd c (a % c) := by rw [Nat.gcd_comm a c, Nat.gcd_rec c a, Nat.gcd_comm]
    have ha : (a : Int) = (c : Int) * ((a / c : Nat) : Int) + ((a % c : Nat) : Int) := by
      have h2 : ((c * (a / c) + a % c : Nat) : Int) = (a : Int) := congrArg Int.ofNat hdm
      rw [← h2, Int.natCast_add, Int.natCast_mul]
    have hm : ((a / c : Nat) : Int) * mm c = (c : Int) * ((a / c : Nat) : Int) * c - (c : Int) * ((a / c : Nat) : Int) := by
      unfold mm
      rw [Int.mul_comm (c : Int) ((a / c : Nat) : Int), ← Int.mul_assoc, Int.mul_sub, Int.mul_one]
    by_cases hr : 0 < a % c
    · have h1 := ih (a % c) (Nat.mod_lt _ hc) c hr
      rw [hg, hm]
      have e1 : (a : Int) * c = (c : Int) * ((a / c : Nat) : Int) * c + (c : Int) * ((a % c : Nat) : Int) := by
        rw [ha, Int.add_mul, Int.mul_comm ((a % c : Nat) : Int) (c : Int)]
      rw [e1]
      omega
    · have hz : a % c = 0 := by omega
      rw [hz, eu_zero, hg, hz, Nat.gcd_zero_right, hm]
      have e1 : (a : Int) * c = (c : Int) * ((a / c : Nat) : Int) * c := by
        rw [ha, hz]; simp
      rw [e1]
      rw [hz] at ha
      simp at ha ⊢
      omega
theorem sum_big (l : List Nat) : ((big l).map mm).sum = (l.map mm).sum := by
  induction l with
  | nil => rfl
  | cons x l ih =>
    unfold big at ih ⊢
    rw [List.filter_cons]
    by_cases h : 1 < x
    · rw [if_pos (decide_eq_true h), List.map_cons, List.map_cons, List.sum_cons, List.sum_cons, ih]
    · rw [if_neg (by simpa using h), ih, List.map_cons, List.sum_cons]
      have : mm x = 0 := by
        unfold mm
        have : x = 0 ∨ x = 1 := by omega
        rcases this with rfl | rfl <;> rfl
      rw [this]
      omega
theorem shn_tn (R : Row n rest) : ∀ i, i ≤ rest.length → shn n rest i ∣ tn rest i
  | 0, _ => Nat.dvd_zero _
  | i + 1, _ => shn_dvx i
theorem Row.sums (R : Row n rest) : ∀ k i, i + k = rest.length → ((euOut (shn n rest i) (tn rest i) (rest.drop i)).map mm).sum + ((shn n rest i : Nat) : Int) * (Fr (shn n rest) (vn n rest) i + n + (tn rest i : Nat) + 1) - (tn rest i : Nat) - n = Fr (shn n rest) (vn n rest) rest.length + 1
  | 0, i, hi => by
    obtain rfl : i = rest.length := by omega
    rw [List.drop_length, R.one]
    show (([] : List Nat).map mm).sum + _ - _ - _ = _
    simp
    omega
  | k + 1, i, hi => by
    have h : i < rest.length := by omega
    have ih := R.sums k (i + 1) (by omega)
    rw [drop_at h]
    show ((eu (rest.getD i 0 - tn rest i) (shn n rest i) ++ euOut (Nat.gcd (shn n rest i) (rest.getD i 0)) (rest.getD i 0) (rest.drop (i + 1))).map mm).sum + _ - _ - _ = _
    rw [sum_app]
    have e0 := sum_eu (shn n rest i) (rest.getD i 0 - tn rest i) (shn_pos (rest := rest) R.pos i).1
    have ht := tn_lt R.inc h
    have hg : Nat.gcd (rest.getD i 0 - tn rest i) (shn n rest i) = shn n rest (i + 1) := by
      rw [Nat.gcd_comm]
      have := gcd_shift (s := shn n rest i) (c := 0) (x := rest.getD i 0) (y := tn rest i) (Nat.dvd_zero _) (shn_tn R i (by omega)) (by omega)
      rw [Nat.zero_add] at this
      exact this
    rw [hg] at e0
    have hv := R.vFr i h
    have hF : Fr (shn n rest) (vn n rest) (i + 1) + n + (rest.getD i 0 : Nat) = ((shn n rest i / shn n rest (i + 1) : Nat) : Int) * (vn n rest (i + 1) : Int) := by
      show Fr (shn n rest) (vn n rest) i + (((shn n rest i / shn n rest (i + 1) : Nat) : Int) - 1) * (vn n rest (i + 1) : Int) + n + _ = _
      rw [Int.sub_mul, Int.one_mul]
      omega
    have hs : ((shn n rest (i + 1) : Nat) : Int) * (Fr (shn n rest) (vn n rest) (i + 1) + n + (rest.getD i 0 : Nat)) = (shn n rest i : Int) * (vn n rest (i + 1) : Int) := by
      rw [hF, ← Int.mul_assoc, ← Int.natCast_mul]
      have := (part_pos (R.gcd i h) (shn_pos (rest := rest) R.pos i).1).2.1
      rw [Nat.mul_comm (shn n rest (i + 1)), ← this]
    have ih' : ((euOut (Nat.gcd (shn n rest i) (rest.getD i 0)) (rest.getD i 0) (rest.drop (i + 1))).map mm).sum + ((shn n rest (i + 1) : Nat) : Int) * (Fr (shn n rest) (vn n rest) (i + 1) + n + (rest.getD i 0 : Nat) + 1) - (rest.getD i 0 : Nat) - n = Fr (shn n rest) (vn n rest) rest.length + 1 := ih
    rw [Int.mul_add _ _ 1, hs, Int.mul_one, hv] at ih'
    have hsub : ((rest.getD i 0 - tn rest i : Nat) : Int) = (rest.getD i 0 : Nat) - (tn rest i : Nat) := by omega
    rw [hsub, Int.sub_mul] at e0
    rw [← ih']
    have e2 : ((shn n rest i : Nat) : Int) * (Fr (shn n rest) (vn n rest) i + n + (tn rest i : Nat) + 1) = ((shn n rest i : Nat) : Int) * (Fr (shn n rest) (vn n rest) i + n) + (tn rest i : Nat) * ((shn n rest i : Nat) : Int) + ((shn n rest i : Nat) : Int) := by
      rw [Int.mul_add, Int.mul_add, Int.mul_one, Int.mul_comm ((tn rest i : Nat) : Int)]
    have e3 : ((shn n rest i : Nat) : Int) * (Fr (shn n rest) (vn n rest) i + n + (rest.getD i 0 : Nat)) = ((shn n rest i : Nat) : Int) * (Fr (shn n rest) (vn n rest) i + n) + (rest.getD i 0 : Nat) * ((shn n rest i : Nat) : Int) := by
      rw [Int.mul_add, Int.mul_comm ((rest.getD i 0 : Nat) : Int)]
    rw [e2, e3]
    omega
/-- the conductor -/
def cn (n : Nat) (rest : List Nat) : Int := Fr (shn n rest) (vn n rest) rest.length + 1
theorem Row.cond (R : Row n rest) : ((big (euOut n 0 rest)).map mm).sum = cn n rest := by
  rw [sum_big]
  have := R.sums rest.length 0 (by omega)
  rw [List.drop_zero] at this
  have e : ((shn n rest 0 : Nat) : Int) * (Fr (shn n rest) (vn n rest) 0 + n + (tn rest 0 : Nat) + 1) = n := by
    show (n : Int) * (-(n : Int) + n + ((0 : Nat) : Int) + 1) = n
    have : (-(n : Int) + n + ((0 : Nat) : Int) + 1) = 1 := by omega
    rw [this, Int.mul_one]
  rw [e] at this
  have e2 : ((euOut (shn n rest 0) (tn rest 0) rest).map mm).sum = ((euOut n 0 rest).map mm).sum := rfl
  rw [e2] at this
  have t0 : (tn rest 0 : Nat) = 0 := rfl
  rw [t0] at this
  unfold cn
  rw [← this]
  omega
end
end K42
set_option maxHeartbeats 0
namespace K42
open PySem PySem.Spec PyProof.Rows L2 He TC Evl
def hnext (gs : List Nat) (bs : List Bool) (k : Nat) : Bool := gs.any fun g => decide (g ≤ k) && bs.getD (k - g) false
def htab (gs : List Nat) : Nat → List Bool
  | 0 => [true]
  | k + 1 => htab gs k ++ [hnext gs (htab gs k) (k + 1)]
theorem htab_len (gs : List Nat) : ∀ k, (htab gs k).length = k + 1
  | 0 => rfl
  | k + 1 => by show (htab gs k ++ [_]).length = _; rw [List.length_append, htab_len gs k]; rfl
/-- k is held -/
def hd (gs : List Nat) (k : Nat) : Bool := (htab gs k).getD k false
theorem htab_at (gs : List Nat) : ∀ m k, k ≤ m → (htab gs m).getD k false = hd gs k
  | 0, k, h => by obtain rfl : k = 0 := by omega
                  rfl
  | m + 1, k, h => by
    by_cases e : k = m + 1
    · subst e; rfl
    · show (htab gs m ++ [_]).getD k false = _
      rw [List.getD_eq_getElem?_getD, List.getElem?_append_left (by rw [htab_len]; omega), ← List.getD_eq_getElem?_getD]
      exact htab_at gs m k (by omega)
theorem htab_eq (gs : List Nat) (m : Nat) : htab gs m = (List.range (m + 1)).map (hd gs) := by
  refine List.ext_getElem? fun i => ?_
  by_cases h : i < m + 1
  · have e := htab_at gs m i (by omega)
    rw [List.getD_eq_getElem?_getD, List.getElem?_eq_getElem (by rw [htab_len]; exact h)] at e
    rw [List.getElem?_eq_getElem (by rw [htab_len]; exact h), List.getElem?_map, List.getElem?_range h]
    exact congrArg some e
  · rw [List.getElem?_eq_none (by rw [htab_len]; omega), List.getElem?_eq_none (by simp; omega)]
theorem hd_succ (gs : List Nat) (k : Nat) (hp : ∀ g ∈ gs, 0 < g) : hd gs (k + 1) = true ↔ ∃ g ∈ gs, g ≤ k + 1 ∧ hd gs (k + 1 - g) = true := by
  have e : hd gs (k + 1) = hnext gs (htab gs k) (k + 1) := by
    unfold hd
    show (htab gs k ++ [hnext gs (htab gs k) (k + 1)]).getD (k + 1) false = _
    rw [List.getD_eq_getElem?_getD, List.getElem?_append_right (by rw [htab_len]; omega), htab_len]
    simp
  rw [e]
  unfold hnext
  rw [List.any_eq_true]
  constructor
  · rintro ⟨g, hg, h⟩
    obtain ⟨h1, h2⟩ := ba h
    have h1 := of_decide_eq_true h1
    rw [htab_at gs k _ (by have := hp g hg; omega)] at h2
    exact ⟨g, hg, h1, h2⟩
  · rintro ⟨g, hg, h1, h2⟩
    refine ⟨g, hg, ?_⟩
    rw [decide_eq_true h1, htab_at gs k _ (by have := hp g hg; omega), h2]
    rfl
section
variable {e v : Nat → Nat} {g : Nat}
theorem Tel.held (T : Tel e v g) (hv : ∀ i, i ≤ g → 0 < v i) : ∀ k : Nat, hd ((List.range (g + 1)).map v) k = true ↔ Sg e v g (k : Int) := fun k => by
  have hp : ∀ x ∈ (List.range (g + 1)).map v, 0 < x := fun x hx => by
    obtain ⟨i, hi, rfl⟩ := List.mem_map.mp hx
    exact hv i (by have := List.mem_range.mp hi; omega)
  induction k using Nat.strongRecOn with
  | ind k ih =>
    cases k with
    | zero => exact ⟨fun _ => T.zero g (Nat.le_refl _), fun _ => rfl⟩
    | succ k =>
      rw [hd_succ _ _ hp]
      constructor
      · rintro ⟨x, hx, h1, h2⟩
        have px := hp x hx
        obtain ⟨i, hi, rfl⟩ := List.mem_map.mp hx
        have := (ih (k + 1 - v i) (by omega)).mp h2
        have s := T.add g (Nat.le_refl _) _ _ this (T.gen g (Nat.le_refl _) i (by have := List.mem_range.mp hi; omega))
        have e1 : ((k + 1 - v i : Nat) : Int) + (v i : Int) = ((k + 1 : Nat) : Int) := by omega
        rw [e1] at s
        exact s
      · intro hs
        obtain ⟨j, hj, hs'⟩ := T.pred g (Nat.le_refl _) _ hs (by omega)
        have h0 := (T.sdv g (Nat.le_refl _) _ hs').2
        have pj := hv j hj
        refine ⟨v j, List.mem_map.mpr ⟨j, List.mem_range.mpr (by omega), rfl⟩, by omega, (ih (k + 1 - v j) (by omega)).mpr ?_⟩
        have e1 : ((k + 1 - v j : Nat) : Int) = ((k + 1 : Nat) : Int) - (v j : Int) := by omega
        rw [e1]
        exact hs'
def digs (e v : Nat → Nat) : Nat → Int → List Nat
  | 0, _ => []
  | i + 1, k => digs e v i (k - (dg e v i k : Int) * (v (i + 1) : Int)) ++ [dg e v i k]
def totd (e v : Nat → Nat) : Nat → Int → Int
  | 0, _ => 0
  | i + 1, k => totd e v i (k - (dg e v i k : Int) * (v (i + 1) : Int)) + (dg e v i k : Int) * (v (i + 1) : Int)
def lots (e v : Nat → Nat) : Nat → List (List Nat × Int)
  | 0 => [([], 0)]
  | i + 1 => (lots e v i).flatMap fun p => (List.range (e i / e (i + 1))).map fun t : Nat => (p.1 ++ [t], p.2 + (t : Int) * (v (i + 1) : Int))
theorem digs_len : ∀ (i : Nat) (k : Int), (digs e v i k).length = i
  | 0, _ => rfl
  | i + 1, k => by show (digs e v i _ ++ [_]).length = _; rw [List.length_append, digs_len i]; rfl
theorem T0_tot : ∀ (i : Nat) (k : Int), T0 e v i k = (k - totd e v i k) / (e 0 : Int)
  | 0, k => by show k / _ = (k - 0) / _; rw [Int.sub_zero]
  | i + 1, k => by
    show T0 e v i (k - (dg e v i k : Int) * (v (i + 1) : Int)) = _
    rw [T0_tot i]
    congr 1
    show _ = k - (totd e v i (k - (dg e v i k : Int) * (v (i + 1) : Int)) + (dg e v i k : Int) * (v (i + 1) : Int))
    omega
theorem Tel.tdv (T : Tel e v g) : ∀ i, i ≤ g → ∀ k : Int, (e i : Int) ∣ k → (e 0 : Int) ∣ k - totd e v i k
  | 0, _, k, h => by show _ ∣ k - 0; rw [Int.sub_zero]; exact h
  | i + 1, h, k, hk => by
    have := T.tdv i (by omega) _ (T.dig h hk).2.1
    have e1 : k - totd e v (i + 1) k = k - (dg e v i k : Int) * (v (i + 1) : Int) - totd e v i (k - (dg e v i k : Int) * (v (i + 1) : Int)) := by
      show k - (totd e v i (k - (dg e v i k : Int) * (v (i + 1) : Int)) + (dg e v i k : Int) * (v (i + 1) : Int)) = _
      omega
    rw [e1]
    exact this
theorem Tel.lot_dv (T : Tel e v g) : ∀ i, i ≤ g → ∀ p ∈ lots e v i, (e i : Int) ∣ p.2 ∧ 0 ≤ p.2
  | 0, _, p, hp => by
    rw [List.mem_singleton.mp hp]
    exact ⟨⟨0, by simp⟩, Int.le_refl _⟩
  | i + 1, h, p, hp => by
    obtain ⟨q, hq, hp⟩ := List.mem_flatMap.mp hp
    obtain ⟨t, ht, rfl⟩ := List.mem_map.mp hp
    obtain ⟨d1, d2⟩ := T.lot_dv i (by omega) q hq
    have : (0 : Int) ≤ (t : Int) * (v (i + 1) : Int) := Int.mul_nonneg (by omega) (by omega)
    refine ⟨Int.dvd_add (Int.dvd_trans (dvd_i (T.dv h)) d1) (Int.dvd_trans (dvd_i (T.dvv (i + 1) h)) (Int.dvd_mul_left _ _)), ?_⟩
    show 0 ≤ q.2 + _
    omega
theorem range_pick {N d : Nat} (h : d < N) (p : Nat → Bool) (hp : ∀ t, t < N → p t = true → t = d) : (List.range N).filter p = if p d = true then [d] else [] := by
  have key : ∀ n : Nat, (∀ t, t < n → p t = true → t = d) → (List.range n).filter p = if d < n ∧ p d = true then [d] else [] := fun n => by
    induction n with
    | zero => intro _; rw [if_neg (by omega)]; rfl
    | succ n ih =>
      intro hn
      rw [List.range_succ, List.filter_append, ih (fun t h1 h2 => hn t (by omega) h2)]
      by_cases hpn : p n = true
      · have e := hn n (by omega) hpn
        rw [if_neg (by omega), if_pos ⟨by omega, by rw [← e]; exact hpn⟩]
        have hpd : p d = true := e ▸ hpn
        simp [hpn, e, hpd]
      · have : [n].filter p = [] := by simp [hpn]
        rw [this, List.append_nil]
        by_cases hd' : d < n ∧ p d = true
        · rw [if_pos hd', if_pos ⟨by omega, hd'.2⟩]
        · rw [if_neg hd', if_neg]
          rintro ⟨h1, h2⟩
          have : d ≠ n := fun z => hpn (z ▸ h2)
          exact hd' ⟨by omega, h2⟩
  rw [key N hp]
  by_cases hd' : p d = true
  · rw [if_pos ⟨h, hd'⟩, if_pos hd']
  · rw [if_neg (fun z => hd' z.2), if_neg hd']
theorem flat_pick {α β : Type} (f : α → β) (p : α → Bool) (l : List α) : (l.flatMap fun x => if p x = true then [f x] else []) = (l.filter p).map f := by
  induction l with
  | nil => rfl
  | cons x l ih =>
    rw [List.flatMap_cons, ih, List.filter_cons]
    by_cases h : p x = true
    · rw [if_pos h, if_pos h]; rfl
    · rw [if_neg h, if_neg h]; rfl
def fits (e : Nat → Nat) (k : Int) (p : List Nat × Int) : Bool := decide ((k - p.2) % (e 0 : Int) = 0)
theorem Tel.one_lot (T : Tel e v g) : ∀ i, i ≤ g → ∀ k : Int, (e i : Int) ∣ k → (lots e v i).filter (fits e k) = [(digs e v i k, totd e v i k)]
  | 0, _, k, hk => by
    show ([([], 0)] : List (List Nat × Int)).filter (fits e k) = [([], 0)]
    have : fits e k (([] : List Nat), (0 : Int)) = true := by
      unfold fits
      rw [Int.sub_zero]
      exact decide_eq_true (Int.emod_eq_zero_of_dvd hk)
    simp [this]
  | i + 1, h, k, hk => by
    obtain ⟨q1, q2, _⟩ := T.dig h hk
    have ih := T.one_lot i (by omega) _ q2
    show ((lots e v i).flatMap fun p => (List.range (e i / e (i + 1))).map fun t : Nat => (p.1 ++ [t], p.2 + (t : Int) * (v (i + 1) : Int))).filter (fits e k) = _
    rw [List.filter_flatMap]
    have e0 : (e i : Int) ∣ (e 0 : Int) := by
      have : ∀ j, j ≤ i → e i ∣ e (i - j) := fun j => by
        induction j with
        | zero => intro _; exact Nat.dvd_refl _
        | succ j ih =>
          intro hj
          have hx := T.dv (i := i - (j + 1)) (by omega)
          rw [show i - (j + 1) + 1 = i - j by omega] at hx
          exact Nat.dvd_trans (ih (by omega)) hx
      have := this i (Nat.le_refl _)
      rw [Nat.sub_self] at this
      exact dvd_i this
    have step : ∀ p ∈ lots e v i, ((List.range (e i / e (i + 1))).map fun t : Nat => (p.1 ++ [t], p.2 + (t : Int) * (v (i + 1) : Int))).filter (fits e k) = if fits e (k - (dg e v i k : Int) * (v (i + 1) : Int)) p = true then [(p.1 ++ [dg e v i k], p.2 + (dg e v i k : Int) * (v (i + 1) : Int))] else [] := fun p hp => by
      rw [List.filter_map]
      have hpd := (T.lot_dv i (by omega) p hp).1
      rw [range_pick (d := dg e v i k) q1 _ (fun t ht hpt => ?_)]
      · have e3 : ((fits e k) ∘ fun t : Nat => (p.1 ++ [t], p.2 + (t : Int) * (v (i + 1) : Int))) (dg e v i k) = fits e (k - (dg e v i k : Int) * (v (i + 1) : Int)) p := by
          show decide ((k - (p.2 + (dg e v i k : Int) * (v (i + 1) : Int))) % (e 0 : Int) = 0) = decide ((k - (dg e v i k : Int) * (v (i + 1) : Int) - p.2) % (e 0 : Int) = 0)
          rw [show k - (p.2 + (dg e v i k : Int) * (v (i + 1) : Int)) = k - (dg e v i k : Int) * (v (i + 1) : Int) - p.2 by omega]
        rw [e3]
        split <;> rfl
      · have h1 : (k - (p.2 + (t : Int) * (v (i + 1) : Int))) % (e 0 : Int) = 0 := of_decide_eq_true hpt
        have h2 := Int.dvd_trans e0 (Int.dvd_of_emod_eq_zero h1)
        have h3 := Int.dvd_add h2 hpd
        rw [show k - (p.2 + (t : Int) * (v (i + 1) : Int)) + p.2 = k - (t : Int) * (v (i + 1) : Int) by omega] at h3
        exact (T.dig_eq h hk ht h3).symm
    have e4 : (lots e v i).flatMap (fun p => ((List.range (e i / e (i + 1))).map fun t : Nat => (p.1 ++ [t], p.2 + (t : Int) * (v (i + 1) : Int))).filter (fits e k)) = (lots e v i).flatMap fun p => if fits e (k - (dg e v i k : Int) * (v (i + 1) : Int)) p = true then [(p.1 ++ [dg e v i k], p.2 + (dg e v i k : Int) * (v (i + 1) : Int))] else [] := by
      rw [List.flatMap_def, List.flatMap_def, List.map_congr_left step]
    rw [e4, flat_pick, ih]
    rfl
end
theorem range_rev (n : Nat) : (List.range n).reverse = (List.range n).map fun k => n - 1 - k := by
  refine List.ext_getElem (by simp) fun i h1 h2 => ?_
  simp at h1 h2 ⊢
theorem half (c : Nat) (p : Nat → Bool) (h : ∀ k, k < c → p (c - 1 - k) = !p k) : 2 * ((List.range c).filter p).length = c := by
  have e1 : ((List.range c).filter p).length = ((List.range c).filter fun k => !p k).length := by
    have : ((List.range c).filter p).length = ((List.range c).reverse.filter p).length := by rw [List.filter_reverse, List.length_reverse]
    rw [this, range_rev, List.filter_map, List.length_map]
    congr 1
    refine List.filter_congr fun k hk => ?_
    show p (c - 1 - k) = !p k
    exact h k (List.mem_range.mp hk)
  have e2 : ∀ l : List Nat, (l.filter p).length + (l.filter fun k => !p k).length = l.length := fun l => by
    induction l with
    | nil => rfl
    | cons x l ih =>
      rw [List.filter_cons, List.filter_cons]
      cases p x <;> simp <;> omega
  have := e2 (List.range c)
  rw [← e1, List.length_range] at this
  omega
section
variable {n : Nat} {rest : List Nat}
def gens (n : Nat) (rest : List Nat) : List Nat := (List.range (rest.length + 1)).map (vn n rest)
def t0 (n : Nat) (rest : List Nat) (k : Int) : Int := T0 (shn n rest) (vn n rest) rest.length k
theorem one_dvd (R : Row n rest) (k : Int) : (shn n rest rest.length : Int) ∣ k := by rw [R.one]; exact ⟨k, by simp⟩
theorem Row.vpos (R : Row n rest) : ∀ i, i ≤ rest.length → 0 < vn n rest i
  | 0, _ => R.pos
  | i + 1, h => by
    have h1 := R.gcd i (by omega)
    have h2 := (shn_pos (rest := rest) R.pos i).1
    rcases i with _ | i
    · have := tn_lt R.inc (i := 0) (by omega)
      exact this
    · have := R.up (i := i) (by omega)
      show 0 < vn n rest (i + 1) * _ + rest.getD (i + 1) 0 - rest.getD i 0
      omega
theorem Row.held (R : Row n rest) (k : Nat) : hd (gens n rest) k = decide (0 ≤ t0 n rest k) := by
  have h := (R.tel.held R.vpos k).trans (R.tel.iff rest.length (Nat.le_refl _) k (one_dvd R k))
  by_cases hk : 0 ≤ t0 n rest k
  · rw [decide_eq_true hk]; exact h.mpr hk
  · rw [decide_eq_false hk]
    cases hc : hd (gens n rest) k with
    | false => rfl
    | true => exact absurd (h.mp hc) hk
theorem Row.sym (R : Row n rest) (k : Int) : t0 n rest (cn n rest - 1 - k) = -1 - t0 n rest k := by
  have := R.tel.sym rest.length (Nat.le_refl _) k (one_dvd R k)
  have e : cn n rest - 1 - k = Fr (shn n rest) (vn n rest) rest.length - k := by unfold cn; omega
  rw [e]
  exact this
theorem Row.great (R : Row n rest) {k : Int} (h : cn n rest ≤ k) : 0 ≤ t0 n rest k := R.tel.great rest.length (Nat.le_refl _) k (one_dvd R k) (by unfold cn at h; omega)
theorem Row.cpos (R : Row n rest) : 0 ≤ cn n rest := by
  rw [← R.cond]
  have : ∀ l : List Nat, 0 ≤ (l.map mm).sum := fun l => by
    induction l with
    | nil => exact Int.le_refl _
    | cons x l ih =>
      rw [List.map_cons, List.sum_cons]
      have : 0 ≤ mm x := by
        unfold mm
        rcases Nat.eq_zero_or_pos x with z | z
        · subst z; decide
        · exact Int.mul_nonneg (by omega) (by omega)
      omega
  exact this _
end
end K42
set_option maxHeartbeats 0
namespace K42
open PySem PySem.Spec PyProof.Rows L2 He TC Evl
structure RowB (n : Nat) (rest : List Nat) : Prop where
  row : Row n rest
  len : rest.length ≤ 4
  n24 : n ≤ 24
  x80 : ∀ i, i < rest.length → rest.getD i 0 ≤ 80
  br : chBreach (iN (n :: rest)) = none
section
variable {n : Nat} {rest : List Nat}
theorem RowB.vle (R : RowB n rest) : ∀ i, i ≤ rest.length → vn n rest i ≤ 81 * 25 ^ i
  | 0, _ => by have := R.n24; show n ≤ 81 * 25 ^ 0; omega
  | 1, h => by
    have := R.x80 0 (by omega)
    show rest.getD 0 0 ≤ 81 * 25 ^ 1
    omega
  | i + 2, h => by
    have ih := R.vle (i + 1) (by omega)
    have hx := R.x80 (i + 1) (by omega)
    have hs := (shn_pos (rest := rest) R.row.pos i).2
    have hq : shn n rest i / shn n rest (i + 1) ≤ 24 := Nat.le_trans (Nat.div_le_self _ _) (by have := R.n24; omega)
    have hm := Nat.mul_le_mul ih hq
    have hp : 1 ≤ 25 ^ (i + 1) := Nat.one_le_pow _ _ (by decide)
    show vn n rest (i + 1) * (shn n rest i / shn n rest (i + 1)) + rest.getD (i + 1) 0 - rest.getD i 0 ≤ 81 * 25 ^ (i + 1 + 1)
    rw [Nat.pow_succ]
    generalize 25 ^ (i + 1) = P at *
    omega
theorem RowB.vlt (R : RowB n rest) {i : Nat} (h : i ≤ rest.length) : vn n rest i < 2 ^ 26 := by
  have h1 := R.vle i h
  have h2 : 25 ^ i ≤ 25 ^ 4 := Nat.pow_le_pow_right (by decide) (by have := R.len; omega)
  have h3 : 81 * 25 ^ 4 < 2 ^ 26 := by decide
  have := Nat.mul_le_mul_left 81 h2
  omega
theorem sN_next (n : Nat) (rest : List Nat) (i : Nat) : sN (iN (n :: rest)) (i + 1) = ((rest.getD i 0 : Nat) : Int) := by rw [iN_at]; rfl
theorem RowB.gF (R : RowB n rest) : ∀ i, i ≤ rest.length → K42.gF (iN (n :: rest)) i = (vn n rest i : Int)
  | 0, _ => by show sN (iN (n :: rest)) 0 = _; rw [iN_at]; rfl
  | 1, _ => sN_next n rest 0
  | i + 2, h => by
    have ih := R.gF (i + 1) (by omega)
    have hu := R.row.up (i := i) (by omega)
    show K42.gF (iN (n :: rest)) (i + 1) * (sS (iN (n :: rest)) i).fdiv (sS (iN (n :: rest)) (i + 1)) + sN (iN (n :: rest)) (i + 2) - sN (iN (n :: rest)) (i + 1) = ((vn n rest (i + 1) * (shn n rest i / shn n rest (i + 1)) + rest.getD (i + 1) 0 - rest.getD i 0 : Nat) : Int)
    rw [ih, sS_iN i (by omega), sS_iN (i + 1) (by omega), sN_next, sN_next, Int.fdiv_eq_ediv_of_nonneg _ (by omega), ← Int.natCast_ediv, ← Int.natCast_mul]
    omega
theorem iN_clen (n : Nat) (rest : List Nat) : (iN (n :: rest)).length = rest.length + 1 := by rw [iN_len]; rfl
theorem RowB.gen (R : RowB n rest) : GenRow (iN (n :: rest)) := by
  have hl := R.len
  refine ⟨by rw [iN_clen]; omega, by rw [iN_clen]; omega, fun k hk => ?_, fun k hk => ?_, fun k hk => ?_⟩
  · rw [iN_clen] at hk
    rw [sS_iN k hk]
    have := (shn_pos (rest := rest) R.row.pos k).1
    omega
  · rw [iN_clen] at hk
    rw [sS_iN k hk]
    have := (shn_pos (rest := rest) R.row.pos k).2
    have := R.n24
    omega
  · rw [iN_clen] at hk
    rw [R.gF k (by omega)]
    have := R.vlt (i := k) (by omega)
    omega
theorem RowB.genOf (R : RowB n rest) : K42.genOf (iN (n :: rest)) = iN (gens n rest) := by
  unfold K42.genOf genUp gens
  rw [iN_clen]
  unfold iN
  rw [List.map_map]
  exact List.map_congr_left fun i hi => R.gF i (by have := List.mem_range.mp hi; omega)
end
end K42
set_option maxHeartbeats 0
namespace K42
open PySem PySem.Spec PyProof.Rows L2 He TC Evl
theorem iN_toNat {ns : List Int} (h : ∀ n ∈ ns, 0 ≤ n) : iN (ns.map Int.toNat) = ns := by
  unfold iN
  rw [List.map_map]
  have : ns.map ((fun n : Nat => (n : Int)) ∘ Int.toNat) = ns.map id := List.map_congr_left fun n hn => Int.toNat_of_nonneg (h n hn)
  rw [this, List.map_id]
theorem getLastD_at : ∀ (o : List Nat) (x : Nat), o.getLastD x = (x :: o).getD o.length 0 := fun o => by
  induction o with
  | nil => intro x; rfl
  | cons y o iho => intro x; rw [List.getLastD_cons, List.length_cons, List.getD_cons_succ]; exact iho y
theorem inc_of : ∀ (o : List Nat) (t : Nat), (∀ i, i < o.length → (if i = 0 then t else o.getD (i - 1) 0) < o.getD i 0) → Inc t o
  | [], _, _ => True.intro
  | x :: o, t, h => ⟨h 0 (by simp), inc_of o x fun i hi => by
    have := h (i + 1) (by simpa using hi)
    cases i with
    | zero => simpa using this
    | succ i => simpa using this⟩
theorem euOut_mem : ∀ (o : List Nat) (s t : Nat), 0 < s → ∀ x ∈ euOut s t o, x ≤ s
  | [], _, _, _, x, hx => by cases hx
  | y :: o, s, t, h, x, hx => by
    rcases List.mem_append.mp (show x ∈ eu (y - t) s ++ euOut (Nat.gcd s y) y o from hx) with z | z
    · exact (eu_mem s (y - t) x z).2.2
    · exact Nat.le_trans (euOut_mem o _ _ (Nat.gcd_pos_of_pos_left _ h) x z) (Nat.gcd_le_left _ h)
/-- what is known of a drawn row -/
structure Got (ns : List Int) (n : Nat) (rest : List Nat) : Prop where
  eq : ns = iN (n :: rest)
  row : RowB n rest
  mul : MulRow n rest
  ml : (big (euOut n 0 rest)).length ≤ 400
theorem Drawn.got {ns : List Int} (d : Drawn ns) (h1 : sS ns (ns.length - 1) = 1) : ∃ n rest, Got ns n rest := by
  have nn : ∀ k ∈ ns, 0 ≤ k := fun k hk => by
    obtain ⟨i, hi, e⟩ := List.mem_iff_getElem.mp hk
    have := (d.le i hi).1
    have e2 : sN ns i = k := sN_at (by rw [List.getElem?_eq_getElem hi, e])
    omega
  have e0 := iN_toNat nn
  obtain ⟨n, rest, ec⟩ : ∃ n rest, ns.map Int.toNat = n :: rest := by
    cases hc : ns.map Int.toNat with
    | nil =>
      have h := congrArg List.length hc
      rw [List.length_map] at h
      have p := d.pos
      rw [h] at p
      exact absurd p (Nat.lt_irrefl 0)
    | cons n rest => exact ⟨n, rest, rfl⟩
  rw [ec] at e0
  have nl : ns.length = rest.length + 1 := by rw [← e0, iN_len]; rfl
  have sN' : ∀ i, sN ns i = (((n :: rest).getD i 0 : Nat) : Int) := fun i => by rw [← e0, iN_at]
  have sS' : ∀ i, i < rest.length + 1 → sS ns i = (shn n rest i : Int) := fun i hi => by rw [← e0]; exact sS_iN i hi
  have l5 := d.len
  have n1 := d.first
  rw [sN' 0] at n1
  have n1 : 1 ≤ n ∧ n ≤ 24 := by have a := n1.1; have b := n1.2; simp at a b; omega
  have last1 : shn n rest rest.length = 1 := by
    have := h1
    rw [nl, Nat.add_sub_cancel, sS' _ (by omega)] at this
    omega
  have xle : ∀ i, i < rest.length → rest.getD i 0 ≤ 80 := fun i hi => by
    have h := (d.le (i + 1) (by omega)).2
    rw [sN'] at h
    have e : (n :: rest).getD (i + 1) 0 = rest.getD i 0 := rfl
    rw [e] at h
    omega
  have inc : Inc 0 rest := inc_of rest 0 fun i hi => by
    have x1 := (d.le (i + 1) (by omega)).1
    rw [sN'] at x1
    have e : (n :: rest).getD (i + 1) 0 = rest.getD i 0 := rfl
    rw [e] at x1
    cases i with
    | zero => show 0 < rest.getD 0 0; omega
    | succ i =>
      have st := (d.step (i + 1) (by omega)).1
      rw [sN', sN'] at st
      have st' : ((rest.getD i 0 : Nat) : Int) < ((rest.getD (i + 1) 0 : Nat) : Int) := st
      show rest.getD i 0 < rest.getD (i + 1) 0
      omega
  have lastB : rest.getLastD 0 ≤ 80 := by
    cases hr : rest with
    | nil => exact Nat.zero_le _
    | cons x o =>
      have h := xle o.length (by rw [hr]; simp)
      rw [List.getLastD_cons, getLastD_at]
      rw [hr] at h
      exact h
  have tot := eu_all_len rest n 0 inc n1.1
  have mm : rest.length * n ≤ 4 * 24 := Nat.mul_le_mul (by omega) n1.2
  have bl : (big (euOut n 0 rest)).length ≤ (euOut n 0 rest).length := List.length_filter_le _ _
  exact ⟨n, rest, e0.symm, ⟨⟨n1.1, inc, last1⟩, by omega, n1.2, xle, by rw [e0]; exact d.br h1⟩, ⟨n1.1, inc, by omega, by omega, by omega⟩, by omega⟩
theorem got467 : Got [4, 6, 7] 4 [6, 7] := ⟨rfl, ⟨⟨by decide, ⟨by decide, by decide, True.intro⟩, by decide⟩, by decide, by decide, fun i hi => by
  have : i = 0 ∨ i = 1 := by have h : i < 2 := hi; omega
  rcases this with rfl | rfl <;> decide, by decide +kernel⟩, ⟨by decide, ⟨by decide, by decide, True.intro⟩, by decide, by decide, by decide +kernel⟩, by decide +kernel⟩
theorem cn467 : cn 4 [6, 7] = 16 := by decide +kernel
theorem got1 : Got [1] 1 [] := ⟨rfl, ⟨⟨by decide, True.intro, by decide⟩, by decide, by decide, fun i hi => (by simp at hi), by decide +kernel⟩, ⟨by decide, True.intro, by decide, by decide, by decide +kernel⟩, by decide +kernel⟩
end K42
set_option maxHeartbeats 0
namespace K42
open PySem PySem.Spec PyProof.Rows L2 He TC Evl
section
variable {w : World} {h0 base : Heap} {K : PySem.W.Frag} {mg : Str → Option Value}
theorem el_catNN {σ : L2.St} {H : Hp} {te tx : TE} {xs ys : List V} (h : EvL te σ H xs) (h2 : EvL tx σ H ys) (hz : xs.length + ys.length ≤ 100000) : EvL (tOp rCat te tx) σ H (xs ++ ys) := fun H1 e Q q =>
  h H1 e _ fun a H2 ha e2 ha2 => h2 H2 (e.trans e2) _ fun b H3 hb e3 hb3 => ⟨a, b, xs, ys, rfl, rfl, e3 _ _ ha2, hb3, sz_of hz, fun p hp => q p _ (fresh_back (e2.trans e3) hp) ((e2.trans e3).trans (Ex.new hp)) upd_same⟩
theorem el_revA {σ : L2.St} {H : Hp} {te : TE} {a : Addr} {xs : List V} (h : Ev te σ H (.ref a)) (hx : SqL K H a xs) : EvL (tRevA K te) σ H xs.reverse := fun H1 e Q q =>
  h H1 e _ fun H2 e2 => ⟨false, a, xs, rfl, SqB.l (ex_l (e.trans e2) hx), fun p hp => q p _ (fresh_back e2 hp) (e2.trans (Ex.new hp)) upd_same⟩
theorem q_par3L {σ : L2.St} {H : Hp} {ts tg tv : TE} {tz : TS} {D : Ends} {i j l : Nat} {xs ys : List V} {x : V} (h1 : EvL ts σ H xs) (h2 : EvL tg σ H ys) (h3 : Ev tv σ H x)
    (k : ∀ p q H1, H p = none → H q = none → p ≠ q → Ex H H1 → H1 p = some (.lst xs) → H1 q = some (.lst ys) → tz D (((σ.set i (some (.ref p))).set j (some (.ref q))).set l (some x)) H1) : tSeq (tPar3 i j l (tCons ts (tCons tg (tCons tv tNil)))) tz D σ H :=
  h1 H (Ex.refl _) _ fun p H1 hp e1 hp1 => h2 H1 e1 _ fun q H2 hq e2 hq2 => h3 H2 (e1.trans e2) _ fun H3 e3 => ⟨.ref p, .ref q, x, rfl, k p q H3 hp (fresh_back e1 hq) (fun z => by rw [← z, hp1] at hq; cases hq) ((e1.trans e2).trans e3) (e3 _ _ (e2 _ _ hp1)) (e3 _ _ hq2)⟩
theorem q_par3LL {σ : L2.St} {H : Hp} {ts tg tv : TE} {tz : TS} {D : Ends} {i j l : Nat} {xs ys zs : List V} (h1 : EvL ts σ H xs) (h2 : EvL tg σ H ys) (h3 : EvL tv σ H zs)
    (k : ∀ p q r H1, H p = none → H q = none → H r = none → p ≠ q → r ≠ p → r ≠ q → Ex H H1 → H1 p = some (.lst xs) → H1 q = some (.lst ys) → H1 r = some (.lst zs) → tz D (((σ.set i (some (.ref p))).set j (some (.ref q))).set l (some (.ref r))) H1) : tSeq (tPar3 i j l (tCons ts (tCons tg (tCons tv tNil)))) tz D σ H :=
  h1 H (Ex.refl _) _ fun p H1 hp e1 hp1 => h2 H1 e1 _ fun q H2 hq e2 hq2 => h3 H2 (e1.trans e2) _ fun r H3 hr e3 hr3 => ⟨.ref p, .ref q, .ref r, rfl, k p q r H3 hp (fresh_back e1 hq) (fresh_back (e1.trans e2) hr) (fun z => by rw [← z, hp1] at hq; cases hq) (fun z => by rw [z, e2 _ _ hp1] at hr; cases hr) (fun z => by rw [z, hq2] at hr; cases hr) ((e1.trans e2).trans e3) (e3 _ _ (e2 _ _ hp1)) (e3 _ _ hq2) hr3⟩
theorem q_forDn {σ : L2.St} {H : Hp} {ta : TA} {tu tz : TS} {D : Ends} {j m : Nat} (h : EvA ta σ H [.int (m : Int), .int 0, .int (-1)]) (hm : m ≤ 100000) (Pv : Nat → L2.St → Hp → Prop) (h0 : ∀ H1, Ex H H1 → Pv 0 σ H1)
    (hs : ∀ (i : Nat) σ' H', i < m → Pv i σ' H' → tu { D with nx := Pv (i + 1), ct := Pv (i + 1), bk := tz D } (σ'.set j (some (.int ((m - i : Nat) : Int)))) H') (hd : ∀ σ' H', Pv m σ' H' → tz D σ' H') : tSeq (tFor (iRng3 ta) (gName j) tu) tz D σ H :=
  h H (Ex.refl H) _ fun H1 e => ⟨m, 0, -1, m, rfl, by
    have := RgC.neg (i := (m : Int)) (j := 0) (by omega) (by omega) (by omega) (by omega)
    rw [Int.sub_zero, Int.toNat_natCast] at this
    exact this, for_rangeC (D := { D with nx := tz D }) Pv (h0 H1 e) (fun i σ' H' hi p => by
    have e0 : (m : Int) + (i : Nat) * (-1) = ((m - i : Nat) : Int) := by omega
    show tu { D with nx := Pv (i + 1), ct := Pv (i + 1), bk := tz D } (σ'.set j (some (.int ((m : Int) + (i : Nat) * (-1))))) H'
    rw [e0]
    exact hs i σ' H' hi p) hd⟩
theorem el_gens {σ : L2.St} {H : Hp} {te : TE} {a : Addr} {n : Nat} {rest : List Nat} (h : Ev te σ H (.ref a)) (hx : SqT K H a ((iN (n :: rest)).map V.int)) (R : RowB n rest) : EvL (tCall (sp_generators_of K) [] E0 (tCons te tNil)) σ H ((iN (gens n rest)).map V.int) := fun H1 e Q q =>
  h H1 e _ fun H2 e2 => ⟨a, _, rfl, ex_t (e.trans e2) hx, R.gen, fun p H3 hp e3 h3 => q p H3 (fresh_back e2 hp) (e2.trans e3) (by rw [R.genOf] at h3; exact h3)⟩
theorem sh_at {n : Nat} {rest : List Nat} {i : Nat} (h : i < rest.length + 1) : atI ((shares (iN (n :: rest))).map V.int) (i : Int) = some (.int (shn n rest i : Int)) := by
  have := atI_int (ns := shares (iN (n :: rest))) (i := i) (by rw [show (shares (iN (n :: rest))).length = _ from shGo_len _ 0, iN_clen]; exact h)
  rw [this, ← sS_iN i h]
  rfl
theorem gn_at {n : Nat} {rest : List Nat} {i : Nat} (h : i < rest.length + 1) : atI ((iN (gens n rest)).map V.int) (i : Int) = some (.int (vn n rest i : Int)) := by
  refine atI_n ?_
  unfold iN gens
  rw [List.map_map, List.map_map, List.getElem?_map, List.getElem?_range h]
  rfl
theorem div_nat {a b : Nat} : (a : Int) / (b : Int) = ((a / b : Nat) : Int) := (Int.natCast_ediv a b).symm
def sp_conductor_of (K : PySem.W.Frag) : Sp := fun vs H Q _ => ∃ (a : Addr) (n : Nat) (rest : List Nat), vs = [.ref a] ∧ SqT K H a ((iN (n :: rest)).map V.int) ∧ RowB n rest ∧ ∀ H', Ex H H' → Q (.int (cn n rest)) H'
theorem ok_conductor_of (T : Wk h0 K mg base) : ClC CX0 PP w K mg base 3 "conductor_of" ["row"] (sp_conductor_of K) := by
  obtain ⟨fd, F⟩ := f_conductor_of T
  refine ⟨_, fd, g_conductor_of T, F.kp, F.bindsN (fun _ _ _ _ _ _ us hl => match us, hl with | [_], _ => rfl), F.ok sc_conductor_of (fun vs H Q E h => ?_) (fun cdv A outer s H vs Q E hr h => ⟨_, PSs.nox (pss_cons (ps_par3 (i := 1) (j := 2) (l := 3) (by rfl) sc_conductor_of.nd rfl rfl rfl (by decide) (by decide) (by decide) rfl rfl rfl (pa_cons (pe_cl (ok_shares_of T) hr (by decide) (by rfl) (pa_cons (pv 0) pa_nil)) (pa_cons (pe_cl (ok_generators_of T) hr (by decide) (by rfl) (pa_cons (pv 0) pa_nil)) (pa_cons (pe_op op_sub (pe_int) (pe_ix (ix_seqK (K := K) rfl) (pv 0) (pe_int) (fun _ _ => rfl))) pa_nil))) (by rfl)) (pss_cons (ps_for PassesOwn.never rfl (pi_range2 (by rfl) (m_range T) (pa_cons (pe_int) (pa_cons (pe_callB (call_lenK (K := K) rfl) (by rfl) (m_len T) boot_len (pa_cons (pv 0) pa_nil)) pa_nil))) (pg_name (i := 4) sc_conductor_of.nd rfl (Or.inl rfl)) (pss_one (ps_set (i := 3) sc_conductor_of.nd rfl (Or.inl rfl) (pe_op op_add (pv 3) (pe_op op_mul (pe_op op_sub (pe_op op_fdiv (pe_ix (ix_seqK (K := K) rfl) (pv 1) (pe_op op_sub (pv 4) (pe_int)) (fun _ _ => rfl)) (pe_ix (ix_seqK (K := K) rfl) (pv 1) (pv 4) (fun _ _ => rfl))) (pe_int)) (pe_ix (ix_seqK (K := K) rfl) (pv 2) (pv 4) (fun _ _ => rfl))))))) (pss_one (ps_ret (pv 3))))), ?_⟩)⟩
  · obtain ⟨a, n, rest, rfl, _⟩ := h; rfl
  · obtain ⟨a, n, rest, rfl, sq, R, hQ⟩ := h
    have hl := R.len
    refine q_par3L (x := .int (1 - (n : Int))) (el_shares (b := true) (ev_var rfl) sq (by rw [iN_clen]; omega)) (el_gens (ev_var rfl) sq R) (ev_op (y := .int (n : Int)) ev_c (ev_ixA (b := true) (i := 0) (ev_var rfl) ev_c sq (atI_n (i := 0) rfl)) rv_I0) fun l f H1 hl0 hf0 hlf e1 hl1 hf1 => ?_
    refine q_forR2 (lo := 1) (n := ((rest.length + 1 : Nat) : Int)) (ea2 ev_c (ev_is (ev_lenA (b := true) (ev_var rfl) (ex_t e1 sq)) (by rw [List.length_map, iN_clen]))) ⟨by decide, by decide, by omega, by omega⟩
      (fun i σ' H' => ∃ (x4 : Option V), σ' = [some (.ref a), some (.ref l), some (.ref f), some (.int (Fr (shn n rest) (vn n rest) i + 1)), x4] ∧ Ex H1 H')
      (fun H2 e2 => ⟨none, ?_, e2⟩) (fun i σ' H' hi ⟨x4, es, e⟩ => ?_) (fun σ' H' ⟨x4, es, e⟩ => ?_)
    · have : (1 : Int) - n = Fr (shn n rest) (vn n rest) 0 + 1 := by show (1 : Int) - n = -(n : Int) + 1; omega
      rw [this]; rfl
    · subst es
      have hi' : i < rest.length := by omega
      have ei : (1 : Int) + (i : Int) = ((i + 1 : Nat) : Int) := by omega
      rw [ei]
      have hp := (shn_pos (rest := rest) R.row.pos (i + 1)).1
      have hp2 := (shn_pos (rest := rest) R.row.pos (i + 1)).2
      have h24 := R.n24
      have hv := R.vlt (i := i + 1) (by omega)
      refine s_asg (v := .int (Fr (shn n rest) (vn n rest) (i + 1) + 1)) (ev_is (ev_op (x := .int (Fr (shn n rest) (vn n rest) i + 1)) (y := .int ((((shn n rest i / shn n rest (i + 1) : Nat) : Int) - 1) * (vn n rest (i + 1) : Int))) (ev_var rfl) (ev_op (x := .int (((shn n rest i / shn n rest (i + 1) : Nat) : Int) - 1)) (y := .int (vn n rest (i + 1) : Int)) (ev_op (x := .int ((shn n rest i / shn n rest (i + 1) : Nat) : Int)) (y := .int 1) (ev_is (ev_op (x := .int (shn n rest i : Int)) (y := .int (shn n rest (i + 1) : Int)) (ev_ixA (b := false) (i := (i : Int)) (ev_var rfl) (ev_is (ev_op (ev_var rfl) ev_c rv_I0) (by congr 1; omega)) (SqB.l (sq_of (e _ _ hl1))) (sh_at (by omega))) (ev_ixA (b := false) (ev_var rfl) (ev_var rfl) (SqB.l (sq_of (e _ _ hl1))) (sh_at (by omega))) (rv_I ⟨by omega, by omega⟩)) (congrArg V.int div_nat)) ev_c rv_I0) (ev_ixA (b := false) (ev_var rfl) (ev_var rfl) (SqB.l (sq_of (e _ _ hf1))) (gn_at (by omega))) (rv_I (cmul (.inr ⟨by omega, by omega⟩)))) rv_I0) (congrArg V.int ?_)) fun H2 e2 => ⟨_, rfl, e.trans e2⟩
      show Fr (shn n rest) (vn n rest) i + 1 + (((shn n rest i / shn n rest (i + 1) : Nat) : Int) - 1) * (vn n rest (i + 1) : Int) = Fr (shn n rest) (vn n rest) i + (((shn n rest i / shn n rest (i + 1) : Nat) : Int) - 1) * (vn n rest (i + 1) : Int) + 1
      omega
    · subst es
      have en : (((rest.length + 1 : Nat) : Int) - 1).toNat = rest.length := by omega
      rw [en]
      exact s_ret (ev_var rfl) fun H2 e2 => hQ H2 ((e1.trans e).trans e2)
def times (n : Nat) (rest : List Nat) (k : Int) : List Int := t0 n rest k :: iN (digs (shn n rest) (vn n rest) rest.length k)
def sp_times_of (K : PySem.W.Frag) : Sp := fun vs H Q _ => ∃ (a : Addr) (n : Nat) (rest : List Nat) (k : Int), vs = [.ref a, .int k] ∧ SqT K H a ((iN (n :: rest)).map V.int) ∧ RowB n rest ∧ RetL ((times n rest k).map V.int) H Q
theorem ok_times_of (T : Wk h0 K mg base) : ClC CX0 PP w K mg base 3 "times_of" ["row", "k"] (sp_times_of K) := by
  obtain ⟨fd, F⟩ := f_times_of T
  refine ⟨_, fd, g_times_of T, F.kp, F.bindsN (fun _ _ _ _ _ _ us hl => match us, hl with | [_, _], _ => rfl), F.ok sc_times_of (fun vs H Q E h => ?_) (fun cdv A outer s H vs Q E hr h => ⟨_, PSs.nox (pss_cons (ps_par3 (i := 2) (j := 3) (l := 4) (by rfl) sc_times_of.nd rfl rfl rfl (by decide) (by decide) (by decide) rfl rfl rfl (pa_cons (pe_cl (ok_shares_of T) hr (by decide) (by rfl) (pa_cons (pv 0) pa_nil)) (pa_cons (pe_cl (ok_generators_of T) hr (by decide) (by rfl) (pa_cons (pv 0) pa_nil)) (pa_cons (pe_lst pa_nil) pa_nil))) (by rfl)) (pss_cons (ps_for PassesOwn.never rfl (pi_range3 (by rfl) (m_range T) (pa_cons (pe_op op_sub (pe_callB (call_lenK (K := K) rfl) (by rfl) (m_len T) boot_len (pa_cons (pv 0) pa_nil)) (pe_int)) (pa_cons (pe_int) (pa_cons (pe_un un_neg (pe_int)) pa_nil)))) (pg_name (i := 5) sc_times_of.nd rfl (Or.inl rfl)) (pss_cons (ps_set (i := 6) sc_times_of.nd rfl (Or.inl rfl) (pe_int)) (pss_cons (ps_while PassesOwn.never (pt_cmpR (op_ne) (pe_op op_mod (pe_op op_sub (pv 1) (pe_op op_mul (pv 6) (pe_ix (ix_seqK (K := K) rfl) (pv 3) (pv 5) (fun _ _ => rfl)))) (pe_ix (ix_seqK (K := K) rfl) (pv 2) (pe_op op_sub (pv 5) (pe_int)) (fun _ _ => rfl))) (pe_int) (nomark _)) (pss_one (ps_aug (i := 6) sc_times_of.nd rfl (Or.inl rfl) (pe_int) ip_add))) (pss_cons (ps_expr (pe_bm PySem.F.plainAttrs_list PySem.F.slot_list_append PySem.F.type_list_append mt_append (pv 4) (pa_cons (pv 6) pa_nil))) (pss_one (ps_set (i := 1) sc_times_of.nd rfl (Or.inl rfl) (pe_op op_sub (pv 1) (pe_op op_mul (pv 6) (pe_ix (ix_seqK (K := K) rfl) (pv 3) (pv 5) (fun _ _ => rfl)))))))))) (pss_one (ps_ret (pe_op op_cat (pe_lst (pa_cons (pe_op op_fdiv (pv 1) (pe_ix (ix_seqK (K := K) rfl) (pv 0) (pe_int) (fun _ _ => rfl))) pa_nil)) (pe_revA (pv 4))))))), ?_⟩)⟩
  · obtain ⟨a, n, rest, k, rfl, _⟩ := h; rfl
  · obtain ⟨a, n, rest, k, rfl, sq, R, hQ⟩ := h
    have hl := R.len
    refine q_par3LL (zs := []) (el_shares (b := true) (ev_var rfl) sq (by rw [iN_clen]; omega)) (el_gens (ev_var rfl) sq R) (el_lst ea_nil (by decide)) fun l f r H1 hl0 hf0 hr0 hlf hrl hrf e1 hl1 hf1 hr1 => ?_
    refine q_forDn (m := rest.length) (ea_cons (ev_is (ev_op (x := .int ((rest.length + 1 : Nat) : Int)) (y := .int 1) (ev_is (ev_lenA (b := true) (ev_var rfl) (ex_t e1 sq)) (by rw [List.length_map, iN_clen])) ev_c rv_I0) (by congr 1; omega)) (ea2 ev_c (ev_un ev_c ru_neg))) (by omega)
      (fun i σ' H' => ∃ (x5 x6 : Option V) (k' : Int) (F : List Nat), σ' = [some (.ref a), some (.int k'), some (.ref l), some (.ref f), some (.ref r), x5, x6] ∧ Ex H H' ∧ H' l = some (.lst ((shares (iN (n :: rest))).map V.int)) ∧ H' f = some (.lst ((iN (gens n rest)).map V.int)) ∧ H' r = some (.lst ((iN F).map V.int)) ∧ F.length = i ∧ (shn n rest (rest.length - i) : Int) ∣ k' ∧ T0 (shn n rest) (vn n rest) (rest.length - i) k' = t0 n rest k ∧ digs (shn n rest) (vn n rest) (rest.length - i) k' ++ F.reverse = digs (shn n rest) (vn n rest) rest.length k)
      (fun H2 e2 => ⟨none, none, k, [], rfl, e1.trans e2, e2 _ _ hl1, e2 _ _ hf1, e2 _ _ hr1, rfl, one_dvd R.row k, rfl, List.append_nil _⟩) (fun i σ' H' hi ⟨x5, x6, k', F, es, e, hl2, hf2, hr2, hF, hdv, ht, hdg⟩ => ?_) (fun σ' H' ⟨x5, x6, k', F, es, e, hl2, hf2, hr2, hF, hdv, ht, hdg⟩ => ?_)
    · subst es
      obtain ⟨j, hj⟩ : ∃ j, rest.length - i = j + 1 := ⟨rest.length - i - 1, by omega⟩
      have hj2 : rest.length - (i + 1) = j := by omega
      rw [hj] at hdv ht hdg
      rw [hj, hj2]
      have hjl : j < rest.length := by omega
      obtain ⟨q1, q2, q3⟩ := R.row.tel.dig hjl hdv
      have hv := R.vlt (i := j + 1) (by omega)
      have hp := (shn_pos (rest := rest) R.row.pos j).1
      have vat : ∀ {σ : L2.St} {H2 : Hp}, Ex H' H2 → σ[3]? = some (some (.ref f)) → σ[5]? = some (some (.int ((j + 1 : Nat) : Int))) → Ev (tOp (rIxA K) (tVar 3) (tVar 5)) σ H2 (.int (vn n rest (j + 1) : Int)) := fun {σ H2} e2 h3 h5 => ev_ixA (b := false) (ev_var h3) (ev_var h5) (SqB.l (sq_of (e2 _ _ hf2))) (gn_at (by omega))
      refine q_asg ev_c fun H2 e2 => ?_
      refine q_while (fun m σ' H3 => ∃ t : Nat, σ' = [some (.ref a), some (.int k'), some (.ref l), some (.ref f), some (.ref r), some (.int ((j + 1 : Nat) : Int)), some (.int (t : Int))] ∧ t + m = dg (shn n rest) (vn n rest) j k' ∧ Ex H' H3) (dg (shn n rest) (vn n rest) j k') ⟨0, rfl, by omega, e2⟩ ?_
      rintro m σ' H3 ⟨t, rfl, htm, e3⟩
      refine ⟨!decide (V.int ((k' - (t : Int) * (vn n rest (j + 1) : Int)) % (shn n rest j : Int)) = V.int 0), et_test (ev_op (ev_op (x := .int (k' - (t : Int) * (vn n rest (j + 1) : Int))) (y := .int (shn n rest j : Int)) (ev_op (x := .int k') (y := .int ((t : Int) * (vn n rest (j + 1) : Int))) (ev_var rfl) (ev_op (x := .int (t : Int)) (y := .int (vn n rest (j + 1) : Int)) (ev_var rfl) (vat e3 rfl rfl) (rv_I (cmul (.inr ⟨by omega, by omega⟩)))) rv_I0) (ev_ixA (b := false) (i := (j : Int)) (ev_var rfl) (ev_is (ev_op (ev_var rfl) ev_c rv_I0) (by congr 1; omega)) (SqB.l (sq_of (e3 _ _ hl2))) (sh_at (by omega))) (rv_I (by omega))) ev_c (rv_ne rfl)), fun hb H4 e4 => ?_, fun hb H4 e4 => ?_⟩
      · have hne : ¬ (shn n rest j : Int) ∣ k' - (t : Int) * (vn n rest (j + 1) : Int) := fun hd => by
          rw [Int.emod_eq_zero_of_dvd hd, decide_eq_true rfl] at hb
          cases hb
        have hm : 0 < m := by
          rcases Nat.eq_zero_or_pos m with z | z
          · subst z
            rw [Nat.add_zero] at htm
            subst htm
            exact absurd q2 hne
          · exact z
        refine ⟨fun σ2 H5 => ∃ m', m' < m ∧ ∃ t : Nat, σ2 = [some (.ref a), some (.int k'), some (.ref l), some (.ref f), some (.ref r), some (.int ((j + 1 : Nat) : Int)), some (.int (t : Int))] ∧ t + m' = dg (shn n rest) (vn n rest) j k' ∧ Ex H' H5, fun σ2 H5 h => h, ?_⟩
        exact s_aug rfl ev_c fun H5 e5 => ⟨m - 1, by omega, t + 1, rfl, by omega, (e3.trans e4).trans e5⟩
      · have hd : (shn n rest j : Int) ∣ k' - (t : Int) * (vn n rest (j + 1) : Int) := by
          have h1 : decide (V.int ((k' - (t : Int) * (vn n rest (j + 1) : Int)) % (shn n rest j : Int)) = V.int 0) = true := by simpa using hb
          have h2 := of_decide_eq_true h1
          injection h2 with h2
          exact Int.dvd_of_emod_eq_zero h2
        have het : t = dg (shn n rest) (vn n rest) j k' := by
          rcases Nat.lt_or_ge t (dg (shn n rest) (vn n rest) j k') with z | z
          · exact absurd hd (q3 t z)
          · omega
        subst het
        have e34 := e3.trans e4
        refine q_app (e34 _ _ hr2) (ev_var rfl) (ev_var rfl) (by rw [List.length_map, iN_len]; omega) fun H5 e5 => ?_
        have e35 := e34.trans e5
        have uf : ∀ {o : HO}, L2.upd H5 r o f = H5 f := fun {o} => upd_ne (fun z => hrf z.symm)
        have ul : ∀ {o : HO}, L2.upd H5 r o l = H5 l := fun {o} => upd_ne (fun z => hrl z.symm)
        refine s_asg (v := .int (k' - (dg (shn n rest) (vn n rest) j k' : Int) * (vn n rest (j + 1) : Int))) (ev_op (x := .int k') (y := .int ((dg (shn n rest) (vn n rest) j k' : Int) * (vn n rest (j + 1) : Int))) (ev_var rfl) (ev_op (x := .int (dg (shn n rest) (vn n rest) j k' : Int)) (y := .int (vn n rest (j + 1) : Int)) (ev_var rfl) (ev_ixA (b := false) (ev_var rfl) (ev_var rfl) (SqB.l (sq_of (uf.trans (e35 _ _ hf2)))) (gn_at (by omega))) (rv_I (cmul (.inr ⟨by omega, by omega⟩)))) rv_I0) fun H6 e6 => ?_
        refine ⟨_, _, _, F ++ [dg (shn n rest) (vn n rest) j k'], rfl, (Ex.mut (e.trans e35) hr0).trans e6, e6 _ _ (ul.trans (e35 _ _ hl2)), e6 _ _ (uf.trans (e35 _ _ hf2)), e6 _ _ (by rw [iN_app, List.map_append]; exact upd_same), by rw [List.length_append, hF]; rfl, q2, ht, ?_⟩
        rw [List.reverse_append, ← List.append_assoc]
        exact hdg
    · subst es
      rw [Nat.sub_self] at hdv ht hdg
      have hq : F.reverse = digs (shn n rest) (vn n rest) rest.length k := hdg
      have hp := R.row.pos
      have h24 := R.n24
      have hfin := el_catNN (te := tLst (tCons (tOp (rI CDiv fun i j => .int (i / j)) (tVar 1) (tOp (rIxA K) (tVar 0) (tC (.int 0)))) tNil)) (tx := tRevA K (tVar 4)) (σ := [some (.ref a), some (.int k'), some (.ref l), some (.ref f), some (.ref r), x5, x6]) (H := H') (el_lst (ea1 (ev_op (x := .int k') (y := .int (n : Int)) (ev_var rfl) (ev_ixA (b := true) (i := 0) (ev_var rfl) ev_c (ex_t e sq) (atI_n (i := 0) rfl)) (rv_I ⟨by omega, by omega⟩))) (by show (1 : Nat) ≤ 100000; decide)) (el_revA (ev_var rfl) (sq_of hr2)) (by rw [List.length_reverse, List.length_map, iN_len, hF]; show 1 + rest.length ≤ 100000; omega)
      refine s_retL hfin fun p H2 hp2 e2 h2 => hQ p H2 (fresh_back e hp2) (e.trans e2) ?_
      rw [h2]
      have e9 : [V.int (k' / (n : Int))] ++ ((iN F).map V.int).reverse = (times n rest k).map V.int := by
        unfold times
        rw [← hq, ← ht]
        unfold iN
        rw [← List.map_reverse, ← List.map_reverse]
        rfl
      rw [e9]
end
end K42
set_option maxHeartbeats 0
namespace K42
open PySem PySem.Spec PyProof.Rows L2 He TC Evl
abbrev PL : Type := List (Int × Int)
end K42
set_option maxHeartbeats 0
namespace K42
open PySem PySem.Spec PyProof.Rows L2 He TC Evl
section
variable {w : World} {h0 base : Heap} {K : PySem.W.Frag} {mg : Str → Option Value}
def sp_settle_character (K : PySem.W.Frag) : Sp := fun vs H Q E => ∃ x d, vs = [x] ∧ Dp K H x d ∧ (itemsD d).length ≤ 40000 ∧ (isInts d = false → Err K "BadRow" "value" E H (fun v _ => v = x)) ∧ (∀ (b : Bool) (ns : List Int), d = seqD b (ns.map PyData.int) → ∀ v H', Ex H H' → ChA K v H' (chBreach ns) → Q v H')
theorem ok_settle_character (T : Wk h0 K mg base) : ClC (L2.CX PP w) PP w K mg base 7 "settle_character" ["row"] (sp_settle_character K) := by
  obtain ⟨fd, F⟩ := f_settle_character T
  refine ⟨_, fd, g_settle_character T, F.kp, F.bindsN (fun _ _ _ _ _ _ us hl => match us, hl with | [_], _ => rfl), F.ok sc_settle_character (fun vs H Q E h => ?_) (fun cdv A outer s H vs Q E hr h => ⟨_, (pss_cons (ps_expr (pe_clX (ok_need_integers T) hr (by decide) (passes_call (takes_of rfl rfl rfl rfl) (fun _ _ _ _ h => h)) (by rfl) (pa_cons (pv 0) pa_nil))) (pss_one (ps_ret (pe_cl (ok_settled_character T) hr (by decide) (by rfl) (pa_cons (pv 0) pa_nil))))), ?_⟩)⟩
  · obtain ⟨x, d, rfl, _⟩ := h; rfl
  · obtain ⟨x, d, rfl, hd, hl, hE, hQ⟩ := h
    refine q_dropCall (ea1 (ev_var rfl)) fun H1 e1 => ⟨x, d, rfl, Dp.ex e1 hd, hl, fun hy H2 e2 => ?_, fun hn => (hE hn).ex e1⟩
    obtain ⟨b, ns, rfl⟩ := isInts_inv hy
    obtain ⟨a, xs, rfl, sq, da⟩ := Dp.seq_inv hd
    have hxs := DpAll.ints_inv da
    subst hxs
    rw [items_seq, List.length_map] at hl
    exact s_retCall (ea1 (ev_var rfl)) fun H3 e3 => ⟨b, a, ns, rfl, sq.ex ((e1.trans e2).trans e3), hl, fun v H4 e4 hv => hQ b ns rfl v H4 (((e1.trans e2).trans e3).trans e4) hv⟩
end
end K42
set_option maxHeartbeats 0
namespace K42
open PySem PySem.Spec PyProof.Rows L2 He TC Evl
section
variable {w : World} {h0 base : Heap} {K : PySem.W.Frag} {mg : Str → Option Value}
theorem nat_beq_v {n m : Nat} : decide (V.int (n : Int) = V.int (m : Int)) = (n == m) := by
  rw [dec_int]
  by_cases h : n = m
  · subst h; simp
  · have h1 : (n == m) = false := beq_eq_false_iff_ne.mpr h
    rw [h1]
    exact beq_eq_false_iff_ne.mpr (by omega)
end
end K42
set_option maxHeartbeats 0
namespace K42
open PySem PySem.Spec PyProof.Rows L2 He TC Evl
def pF (ns : List Int) (k : Nat) : Int := (sS ns (k - 1)).fdiv (sS ns k)
def aF (ns : List Int) : Nat → Int
  | 0 => 0
  | k + 1 => if k = 0 then (sN ns 1).fdiv (sS ns 1) else aF ns k * pF ns k * pF ns (k + 1) + (sN ns (k + 1) - sN ns k).fdiv (sS ns (k + 1))
def cabUp (ns : List Int) (k : Nat) : PL := (List.range k).map fun j => (pF ns (j + 1), aF ns (j + 1))
def cabOf (ns : List Int) : PL := cabUp ns (ns.length - 1)
def bnd (i : Int) : Bool := decide (-(2 ^ 60) < i) && decide (i < 2 ^ 60)
theorem bnd_iff {i : Int} (h : bnd i = true) : -(2 ^ 60) < i ∧ i < 2 ^ 60 := by
  obtain ⟨h1, h2⟩ := ba h
  exact ⟨of_decide_eq_true h1, of_decide_eq_true h2⟩
def okAt (ns : List Int) (k : Nat) : Bool := (decide (0 < sS ns k) && decide (sS ns k < 2 ^ 30)) && (bnd (aF ns k) && (bnd (pF ns k) && bnd (gF ns k)))
def okRow (ns : List Int) : Bool := (chBreach ns).isNone && (decide (0 < ns.length ∧ ns.length ≤ 5) && (List.range ns.length).all (okAt ns))
structure OkRow (ns : List Int) : Prop where
  br : chBreach ns = none
  len : ns.length ≤ 5
  pos : 0 < ns.length
  s0 : ∀ k, k < ns.length → 0 < sS ns k
  s1 : ∀ k, k < ns.length → sS ns k < 2 ^ 30
  a : ∀ k, k < ns.length → -(2 ^ 60) < aF ns k ∧ aF ns k < 2 ^ 60
  p : ∀ k, k < ns.length → -(2 ^ 60) < pF ns k ∧ pF ns k < 2 ^ 60
  g : ∀ k, k < ns.length → -(2 ^ 60) < gF ns k ∧ gF ns k < 2 ^ 60
theorem okRow_iff {ns : List Int} (h : okRow ns = true) : OkRow ns := by
  obtain ⟨h1, h⟩ := ba h
  obtain ⟨h2, h3⟩ := ba h
  have h2' := of_decide_eq_true h2
  have at_ : ∀ k, k < ns.length → okAt ns k = true := fun k hk => List.all_eq_true.mp h3 k (List.mem_range.mpr hk)
  have sp : ∀ k, k < ns.length → (0 < sS ns k ∧ sS ns k < 2 ^ 30) ∧ bnd (aF ns k) = true ∧ bnd (pF ns k) = true ∧ bnd (gF ns k) = true := fun k hk => by
    obtain ⟨z1, z2⟩ := ba (at_ k hk)
    obtain ⟨z3, z4⟩ := ba z1
    obtain ⟨z5, z6⟩ := ba z2
    obtain ⟨z7, z8⟩ := ba z6
    exact ⟨⟨of_decide_eq_true z3, of_decide_eq_true z4⟩, z5, z7, z8⟩
  refine ⟨Option.isNone_iff_eq_none.mp h1, h2'.2, h2'.1, fun k hk => (sp k hk).1.1, fun k hk => (sp k hk).1.2, fun k hk => bnd_iff (sp k hk).2.1, fun k hk => bnd_iff (sp k hk).2.2.1, fun k hk => bnd_iff (sp k hk).2.2.2⟩
theorem cabUp_len (ns : List Int) (k : Nat) : (cabUp ns k).length = k := by unfold cabUp; simp
theorem cabUp_succ (ns : List Int) (k : Nat) : cabUp ns (k + 1) = cabUp ns k ++ [(pF ns (k + 1), aF ns (k + 1))] := by
  unfold cabUp
  rw [List.range_succ, List.map_append]
  rfl
section
variable {w : World} {h0 base : Heap} {K : PySem.W.Frag} {mg : Str → Option Value}
theorem prs_X {H H' : Hp} {f : Addr} {zs : List V} (hf : H f = some (.lst zs)) (e : ExX f H H') : ∀ {ps : PL} {xs : List V}, DpAll K H xs (ps.map prD) → DpAll K H' xs (ps.map prD)
  | [], _, h => by cases h; exact .nil
  | p :: ps, _, h => by
    rw [List.map_cons] at h
    cases h with
    | cons h1 h2 =>
      rw [List.map_cons]
      refine .cons ?_ (prs_X hf e h2)
      obtain ⟨c, rfl, hc⟩ := pair_inv h1
      refine pair_of ?_
      rcases hc with (hc | ⟨o, hc⟩) | hc
      · exact .inl (.inl (e c _ (fun z => by rw [z, hf] at hc; cases hc) hc))
      · exact .inl (.inr ⟨o, e c _ (fun z => by rw [z, hf] at hc; cases hc) hc⟩)
      · exact .inr hc
def sp_cable_of (K : PySem.W.Frag) : Sp := fun vs H Q _ => ∃ (a : Addr) (ns : List Int), vs = [.ref a] ∧ SqT K H a (ns.map V.int) ∧ okRow ns = true ∧ ∀ v H', Ex H H' → Dp K H' v (cabD false (cabOf ns)) → Q v H'
theorem ok_cable_of (T : Wk h0 K mg base) : ClC CX0 PP w K mg base 2 "cable_of" ["row"] (sp_cable_of K) := by
  obtain ⟨fd, F⟩ := f_cable_of T
  refine ⟨_, fd, g_cable_of T, F.kp, F.bindsN (fun _ _ _ _ _ _ us hl => match us, hl with | [_], _ => rfl), F.ok sc_cable_of (fun vs H Q E h => ?_) (fun cdv A outer s H vs Q E hr h => ⟨_, PSs.nox (pss_cons (ps_par (i := 1) (j := 2) (by rfl) sc_cable_of.nd rfl rfl (by decide) rfl rfl (pa_cons (pe_cl (ok_shares_of T) hr (by decide) (by rfl) (pa_cons (pv 0) pa_nil)) (pa_cons (pe_lst pa_nil) pa_nil)) (by rfl)) (pss_cons (ps_for PassesOwn.never rfl (pi_range2 (by rfl) (m_range T) (pa_cons (pe_int) (pa_cons (pe_callB (call_lenK (K := K) rfl) (by rfl) (m_len T) boot_len (pa_cons (pv 0) pa_nil)) pa_nil))) (pg_name (i := 3) sc_cable_of.nd rfl (Or.inl rfl)) (pss_cons (ps_set (i := 4) sc_cable_of.nd rfl (Or.inl rfl) (pe_op op_fdivN (pe_ix (ix_seqK (K := K) rfl) (pv 1) (pe_op op_sub (pv 3) (pe_int)) (fun _ _ => rfl)) (pe_ix (ix_seqK (K := K) rfl) (pv 1) (pv 3) (fun _ _ => rfl)))) (pss_one (ps_if (pt_cmpR (op_eq) (pv 3) (pe_int) (nomark _)) (pss_one (ps_expr (pe_bm PySem.F.plainAttrs_list PySem.F.slot_list_append PySem.F.type_list_append mt_append (pv 2) (pa_cons (pe_tup (pa_cons (pv 4) (pa_cons (pe_op op_fdivN (pe_ix (ix_seqK (K := K) rfl) (pv 0) (pe_int) (fun _ _ => rfl)) (pe_ix (ix_seqK (K := K) rfl) (pv 1) (pe_int) (fun _ _ => rfl))) pa_nil))) pa_nil)))) (pss_one (ps_expr (pe_bm PySem.F.plainAttrs_list PySem.F.slot_list_append PySem.F.type_list_append mt_append (pv 2) (pa_cons (pe_tup (pa_cons (pv 4) (pa_cons (pe_op op_add (pe_op op_mul (pe_op op_mul (pe_ix (ix_seqK (K := K) rfl) (pe_ix (ix_seqK (K := K) rfl) (pv 2) (pe_un un_neg (pe_int)) (fun _ _ => rfl)) (pe_int) (fun _ _ => rfl)) (pe_ix (ix_seqK (K := K) rfl) (pe_ix (ix_seqK (K := K) rfl) (pv 2) (pe_un un_neg (pe_int)) (fun _ _ => rfl)) (pe_int) (fun _ _ => rfl))) (pv 4)) (pe_op op_fdivN (pe_op op_sub (pe_ix (ix_seqK (K := K) rfl) (pv 0) (pv 3) (fun _ _ => rfl)) (pe_ix (ix_seqK (K := K) rfl) (pv 0) (pe_op op_sub (pv 3) (pe_int)) (fun _ _ => rfl))) (pe_ix (ix_seqK (K := K) rfl) (pv 1) (pv 3) (fun _ _ => rfl)))) pa_nil))) pa_nil)))))))) (pss_one (ps_ret (pv 2))))), ?_⟩)⟩
  · obtain ⟨a, ns, rfl, _⟩ := h; rfl
  · obtain ⟨a, ns, rfl, sq, hok, hQ⟩ := h
    have ok := okRow_iff hok
    have hl5 := ok.len
    refine q_parLL (el_shares (b := true) (ev_var rfl) sq (by omega)) (el_lst ea_nil (by decide)) fun l f H1 hl hf e1 hl1 hf1 => ?_
    have slen : (shares ns).length = ns.length := shGo_len ns 0
    have shi : ∀ {σ : L2.St} {te ti : TE} {H' : Hp} {i : Nat}, Ex H1 H' → i < ns.length → Ev te σ H' (.ref l) → Ev ti σ H' (.int (i : Int)) → Ev (tOp (rIxA K) te ti) σ H' (.int (sS ns i)) := fun {σ te ti H' i} e hi h h2 => ev_ixA h h2 (SqB.l (sq_of (e l _ hl1))) (atI_int (by omega))
    have rwi : ∀ {σ : L2.St} {te ti : TE} {H' : Hp} {i : Nat}, Ex H H' → i < ns.length → Ev te σ H' (.ref a) → Ev ti σ H' (.int (i : Int)) → Ev (tOp (rIxA K) te ti) σ H' (.int (sN ns i)) := fun {σ te ti H' i} e hi h h2 => ev_ixA (b := true) h h2 (ex_t e sq) (atI_int hi)
    have prev : ∀ {σ : L2.St} {te : TE} {H1 : Hp} {i : Nat}, 1 ≤ i → Ev te σ H1 (.int (i : Int)) → Ev (tOp (rI0 fun i j => .int (i - j)) te (tC (.int 1))) σ H1 (.int ((i - 1 : Nat) : Int)) := fun {σ te H1 i} h1 h => ev_is (ev_op h ev_c rv_I0) (by congr 1; omega)
    refine q_forR2 (lo := 1) (n := (ns.length : Int)) (ea2 ev_c (ev_is (ev_lenA (b := true) (ev_var rfl) (ex_t e1 sq)) (by rw [List.length_map]))) ⟨by decide, by decide, by omega, by omega⟩
      (fun i σ' H' => ∃ (x3 x4 : Option V) (xs : List V), σ' = [some (.ref a), some (.ref l), some (.ref f), x3, x4] ∧ Ex H H' ∧ H' l = some (.lst ((shares ns).map V.int)) ∧ H' f = some (.lst xs) ∧ DpAll K H' xs ((cabUp ns i).map prD))
      (fun H2 e2 => ⟨none, none, [], rfl, e1.trans e2, e2 l _ hl1, e2 f _ hf1, .nil⟩) (fun i σ' H' hi ⟨x3, x4, xs, es, e, hl2, hf2, hd⟩ => ?_) (fun σ' H' ⟨x3, x4, xs, es, e, hl2, hf2, hd⟩ => ?_)
    · subst es
      have hi' : i + 1 < ns.length := by omega
      have ei : (1 : Int) + (i : Int) = ((i + 1 : Nat) : Int) := by omega
      rw [ei]
      have hxl : xs.length = i := by have := DpAll.length hd; rw [List.length_map, cabUp_len] at this; exact this
      have shi : ∀ {σ : L2.St} {te ti : TE} {H2 : Hp} {i : Nat}, Ex H' H2 → i < ns.length → Ev te σ H2 (.ref l) → Ev ti σ H2 (.int (i : Int)) → Ev (tOp (rIxA K) te ti) σ H2 (.int (sS ns i)) := fun {σ te ti H' i} e hi h h2 => ev_ixA h h2 (SqB.l (sq_of (e l _ hl2))) (atI_int (by omega))
      have dv : ∀ {j : Nat}, j < ns.length → CDivN (sS ns j) (sS ns j) → True := fun _ _ => True.intro
      have s0 := ok.s0 (i + 1) hi'
      have s1 := ok.s1 (i + 1) hi'
      refine q_asg (v := .int (pF ns (i + 1))) (ev_op (shi (i := i) (Ex.refl _) (by omega) (ev_var rfl) (prev (i := i + 1) (by omega) (ev_var rfl))) (shi (i := i + 1) (Ex.refl _) hi' (ev_var rfl) (ev_var rfl)) (rv_I ⟨by omega, by omega⟩)) fun H2 e2 => ?_
      have fin : ∀ v H3, Ex H2 H3 → Dp K H3 v (prD (pF ns (i + 1), aF ns (i + 1))) → ∃ (x3 x4 : Option V) (ys : List V), [some (.ref a), some (.ref l), some (.ref f), some (.int ((i + 1 : Nat) : Int)), some (.int (pF ns (i + 1)))] = [some (.ref a), some (.ref l), some (.ref f), x3, x4] ∧ Ex H (upd H3 f (.lst (xs ++ [v]))) ∧ (upd H3 f (.lst (xs ++ [v]))) l = some (.lst ((shares ns).map V.int)) ∧ (upd H3 f (.lst (xs ++ [v]))) f = some (.lst ys) ∧ DpAll K (upd H3 f (.lst (xs ++ [v]))) ys ((cabUp ns (i + 1)).map prD) := fun v H3 e3 hv => by
        have hlf : l ≠ f := fun z => by
          have h1 := hl1; have h2 := hf1
          rw [z, h2] at h1
          have h3 := congrArg (fun o : Option HO => match o with | some (.lst ys) => ys.length | _ => 0) h1
          simp at h3
          omega
        have hf3 : H3 f = some (.lst xs) := e3 f _ (e2 f _ hf2)
        refine ⟨_, _, xs ++ [v], rfl, Ex.mut ((e.trans e2).trans e3) hf, by rw [upd_ne hlf]; exact e3 l _ (e2 l _ hl2), upd_same, ?_⟩
        rw [cabUp_succ]
        exact prs_X hf3 ExX.upd (by rw [List.map_append]; exact DpAll.snoc (DpAll.ex (e2.trans e3) hd) hv)
      refine s_if (b := decide (i = 0)) (et_is (et_test (ev_op (ev_var rfl) ev_c (rv_eq rfl))) ((nat_beq_v (n := i + 1) (m := 1)).trans (by by_cases h : i = 0 <;> simp [h]))) (fun hz H3 e3 => ?_) (fun hz H3 e3 => ?_)
      · have hz' : i = 0 := of_decide_eq_true hz
        subst hz'
        have t0 : 0 < sS ns 1 := ok.s0 1 (by omega)
        have t1 : sS ns 1 < 2 ^ 30 := ok.s1 1 (by omega)
        refine s_appP (P := fun v H4 => Dp K H4 v (prD (pF ns 1, aF ns 1))) (e3 f _ (e2 f _ hf2)) (ev_var rfl) (ep_pair (ev_var rfl) (v2 := .int (aF ns 1)) (ev_op (rwi (i := 1) ((e.trans e2).trans e3) hi' (ev_var rfl) ev_c) (shi (i := 1) (e2.trans e3) hi' (ev_var rfl) ev_c) (rv_I ⟨by omega, by omega⟩)) (.int _) (.int _)) (by rw [hxl]; decide) fun v H4 e4 hv => fin v H4 (e3.trans e4) hv
      · have hz' : i ≠ 0 := of_decide_eq_false hz
        obtain ⟨m, rfl⟩ : ∃ m, i = m + 1 := ⟨i - 1, by omega⟩
        have hb1 := ok.a (m + 1) (by omega)
        have hb2 := ok.p (m + 1) (by omega)
        have hb3 := ok.p (m + 1 + 1) (by omega)
        have ef : Ex H' H3 := e2.trans e3
        have lastI : ∃ c, xs[xs.length - 1]? = some (.ref c) ∧ SqT K H' c [.int (pF ns (m + 1)), .int (aF ns (m + 1))] := by
          obtain ⟨c, h1, h2⟩ := cab_at' hd (k := m) (by rw [cabUp_len]; omega)
          have eg : (cabUp ns (m + 1)).getD m (0, 0) = (pF ns (m + 1), aF ns (m + 1)) := by
            rw [cabUp_succ, List.getD_eq_getElem?_getD, List.getElem?_append_right (by rw [cabUp_len]; exact Nat.le_refl _), cabUp_len]
            simp
          rw [eg] at h2
          exact ⟨c, by rw [hxl]; exact h1, h2⟩
        obtain ⟨c, hc1, hc2⟩ := lastI
        have fl : ∀ {σ : L2.St}, σ[2]? = some (some (.ref f)) → Ev (tOp (rIxA K) (tVar 2) (tUn (rU fun i => .int (-i)) (tC (.int 1)))) σ H3 (.ref c) := fun {σ} hσ => ev_ixA (ev_var hσ) (ev_un ev_c ru_neg) (SqB.l (sq_of (ef f _ hf2))) (atI_m1 hc1)
        have sq' : SqT K H3 c [.int (pF ns (m + 1)), .int (aF ns (m + 1))] := ex_t ef hc2
        refine s_appP (P := fun v H4 => Dp K H4 v (prD (pF ns (m + 1 + 1), aF ns (m + 1 + 1)))) (ef f _ hf2) (ev_var rfl) (ep_pair (ev_var rfl) (v2 := .int (aF ns (m + 1 + 1))) (ev_op (x := .int (aF ns (m + 1) * pF ns (m + 1) * pF ns (m + 1 + 1))) (y := .int ((sN ns (m + 1 + 1) - sN ns (m + 1)).fdiv (sS ns (m + 1 + 1))))
          (ev_op (ev_op (ev_ixA (b := true) (i := 1) (fl rfl) ev_c sq' (atI_n (i := 1) rfl)) (ev_ixA (b := true) (i := 0) (fl rfl) ev_c sq' (atI_n (i := 0) rfl)) (rv_I (cmul (.inl hb1)))) (ev_var rfl) (rv_I (cmul (.inr hb3))))
          (ev_op (ev_op (rwi (i := m + 1 + 1) (e.trans ef) hi' (ev_var rfl) (ev_var rfl)) (rwi (i := m + 1) (e.trans ef) (by omega) (ev_var rfl) (prev (i := m + 1 + 1) (by omega) (ev_var rfl))) rv_I0) (shi (i := m + 1 + 1) ef hi' (ev_var rfl) (ev_var rfl)) (rv_I ⟨by omega, by omega⟩)) rv_I0) (.int _) (.int _)) (by rw [hxl]; omega) fun v H4 e4 hv => fin v H4 (e3.trans e4) hv
    · subst es
      have en : ((ns.length : Int) - 1).toNat = ns.length - 1 := by omega
      rw [en] at hd
      exact s_ret (ev_var rfl) fun H2 e2 => hQ _ H2 (e.trans e2) (Dp.seq (b := false) (sq_of (e2 f _ hf2)) (DpAll.ex e2 hd))
end
end K42
set_option maxHeartbeats 0
namespace K42
open PySem PySem.Spec PyProof.Rows L2 He TC Evl
section
variable {w : World} {h0 base : Heap} {K : PySem.W.Frag} {mg : Str → Option Value}
def sp_law_g_gcd : Sp := fun vs H Q _ => ∃ (a b : Int), vs = [.int a, .int b] ∧ 0 ≤ b ∧ ∀ r H', Ex H H' → r.natAbs = Nat.gcd a.natAbs b.natAbs → (0 ≤ a → 0 ≤ r) → Q (.int r) H'
theorem ok_law_g_gcd (T : Wk h0 K mg base) : ClC CX0 PP w K mg base 1 "_law_g_gcd" ["a", "b"] sp_law_g_gcd := by
  obtain ⟨fd, F⟩ := f_law_g_gcd T
  refine ⟨_, fd, g_law_g_gcd T, F.kp, F.bindsN (fun _ _ _ _ _ _ us hl => match us, hl with | [_, _], _ => rfl), F.ok sc_law_g_gcd (fun vs H Q E h => ?_) (fun cdv A outer s H vs Q E hr h => ⟨_, PSs.nox (pss_cons (ps_while PassesOwn.never (pt_cmpR (op_ne) (pv 1) (pe_int) (nomark _)) (pss_one (ps_par (i := 0) (j := 1) (by rfl) sc_law_g_gcd.nd rfl rfl (by decide) rfl rfl (pa_cons (pv 1) (pa_cons (pe_op op_mod (pe_callTy call_int1 (by rfl) (m_int T) (by decide +kernel) (pa_cons (pv 0) pa_nil)) (pv 1)) pa_nil)) (by rfl)))) (pss_one (ps_ret (pv 0)))), ?_⟩)⟩
  · obtain ⟨a, b, rfl, _⟩ := h; rfl
  · obtain ⟨a, b, rfl, hb, hQ⟩ := h
    refine q_while (fun m σ' H' => ∃ a' b' : Int, σ' = [some (.int a'), some (.int b')] ∧ m = b'.natAbs ∧ 0 ≤ b' ∧ Ex H H' ∧ Nat.gcd a'.natAbs b'.natAbs = Nat.gcd a.natAbs b.natAbs ∧ (0 ≤ a → 0 ≤ a')) b.natAbs ⟨a, b, rfl, rfl, hb, Ex.refl H, rfl, fun h => h⟩ ?_
    rintro m σ' H' ⟨a', b', rfl, rfl, hb', e, hg, hs⟩
    refine ⟨!decide (V.int b' = V.int 0), et_test (ev_op (ev_var rfl) ev_c (rv_ne rfl)), fun hy H1 e1 => ?_, fun hn H1 e1 => ?_⟩
    · have hnz : b' ≠ 0 := fun z => by rw [z] at hy; simp at hy
      have hpos : 0 < b' := by omega
      refine ⟨fun σ2 H2 => ∃ m', m' < b'.natAbs ∧ ∃ a2 b2 : Int, σ2 = [some (.int a2), some (.int b2)] ∧ m' = b2.natAbs ∧ 0 ≤ b2 ∧ Ex H H2 ∧ Nat.gcd a2.natAbs b2.natAbs = Nat.gcd a.natAbs b.natAbs ∧ (0 ≤ a → 0 ≤ a2), fun σ2 H2 h => h, ?_⟩
      refine s_par (v := .int b') (w := .int (a' % b')) (ea2 (ev_var rfl) (ev_op (ev_int1 (ev_var rfl)) (ev_var rfl) (rv_I hpos))) fun H2 e2 => ?_
      have h1 := Int.emod_nonneg a' hnz
      have h2 := Int.emod_lt_of_pos a' hpos
      exact ⟨(a' % b').natAbs, by omega, b', a' % b', rfl, rfl, h1, (e.trans e1).trans e2, (gcd_step hpos).trans hg, fun _ => by omega⟩
    · have hz : b' = 0 := by
        by_cases h : b' = 0
        · exact h
        · have : decide (V.int b' = V.int 0) = false := decide_eq_false (fun z => h (by injection z))
          rw [this] at hn; cases hn
      subst hz
      refine s_ret (v := .int a') (ev_var rfl) fun H2 e2 => hQ a' H2 ((e.trans e1).trans e2) ?_ hs
      rw [← hg]
      simp
def posR (ns : List Int) : Bool := ns.all fun n => decide (0 < n)
def sp_law_g_shares (K : PySem.W.Frag) : Sp := fun vs H Q _ => ∃ (b : Bool) (a : Addr) (ns : List Int), vs = [.ref a] ∧ SqB K H b a (ns.map V.int) ∧ ns.length ≤ 1000 ∧ posR ns = true ∧ RetL ((shares ns).map V.int) H Q
theorem ok_law_g_shares (T : Wk h0 K mg base) : ClC CX0 PP w K mg base 2 "_law_g_shares" ["row"] (sp_law_g_shares K) := by
  obtain ⟨fd, F⟩ := f_law_g_shares T
  refine ⟨_, fd, g_law_g_shares T, F.kp, F.bindsN (fun _ _ _ _ _ _ us hl => match us, hl with | [_], _ => rfl), F.ok sc_law_g_shares (fun vs H Q E h => ?_) (fun cdv A outer s H vs Q E hr h => ⟨_, PSs.nox (pss_cons (ps_par (i := 1) (j := 2) (by rfl) sc_law_g_shares.nd rfl rfl (by decide) rfl rfl (pa_cons (pe_lst pa_nil) (pa_cons (pe_int) pa_nil)) (by rfl)) (pss_cons (ps_for PassesOwn.never rfl (pi_any (pv 0)) (pg_name (i := 3) sc_law_g_shares.nd rfl (Or.inl rfl)) (pss_cons (ps_set (i := 2) sc_law_g_shares.nd rfl (Or.inl rfl) (pe_ifExp (pt_cmpR (op_ne) (pv 2) (pe_int) (nomark _)) (pe_cl (ok_law_g_gcd T) hr (by decide) (by rfl) (pa_cons (pv 2) (pa_cons (pv 3) pa_nil))) (pv 3))) (pss_one (ps_expr (pe_bm PySem.F.plainAttrs_list PySem.F.slot_list_append PySem.F.type_list_append mt_append (pv 1) (pa_cons (pv 2) pa_nil)))))) (pss_one (ps_ret (pv 1))))), ?_⟩)⟩
  · obtain ⟨b, a, ns, rfl, _⟩ := h; rfl
  · obtain ⟨b, a, ns, rfl, sq, hl, hpos, hQ⟩ := h
    refine q_parL (el_lst ea_nil (by decide)) ev_c fun l H1 hl1 e1 h1 => ?_
    refine q_forA (b := b) (a := a) (xs := ns.map V.int) (ev_var rfl) (sq.ex e1) (fun i σ' H' => ∃ (acc : List Int) (here : Int) (it : Option V), σ' = [some (.ref a), some (.ref l), some (.int here), it] ∧ Ex H H' ∧ H' l = some (.lst (acc.map V.int)) ∧ shares ns = acc ++ shGo here (ns.drop i) ∧ acc.length = i ∧ 0 ≤ here)
      (fun H2 e2 => ⟨[], 0, none, rfl, e1.trans e2, e2 l _ h1, rfl, rfl, by decide⟩) (fun i σ' H' _ ⟨acc, here, it, _, e, _⟩ => sq.ex e) (fun i x σ' H' hx ⟨acc, here, it, es, e, hacc, hs, hal, hh⟩ => ?_) (fun σ' H' ⟨acc, here, it, es, e, hacc, hs, hal, hh⟩ => ?_)
    · subst es
      rw [List.getElem?_map] at hx
      cases hn : ns[i]? with
      | none => rw [hn] at hx; cases hx
      | some n =>
        rw [hn] at hx
        cases hx
        have hn0 : 0 < n := of_decide_eq_true (List.all_eq_true.mp hpos n (List.mem_of_getElem? hn))
        have hd : ns.drop i = n :: ns.drop (i + 1) := by
          obtain ⟨hlt, e3⟩ := List.getElem?_eq_some_iff.mp hn
          rw [← e3]; exact List.drop_eq_getElem_cons hlt
        have hlt : i < ns.length := (List.getElem?_eq_some_iff.mp hn).1
        refine q_asg (v := .int ((Nat.gcd here.natAbs n.natAbs : Nat) : Int)) (ev_if (b := !decide (V.int here = V.int 0)) (et_test (ev_op (ev_var rfl) ev_c (rv_ne rfl))) (fun hy => ?_) (fun hz => ?_)) fun H2 e2 => ?_
        · refine EvP.ev ((ep_call (P := fun v _ => ∃ r : Int, v = .int r ∧ r.natAbs = Nat.gcd here.natAbs n.natAbs ∧ 0 ≤ r) (ea2 (ev_var rfl) (ev_var rfl)) fun H2 e2 Q q E => ⟨here, n, rfl, by omega, fun r H3 e3 h1 h2 => q _ H3 e3 ⟨r, rfl, h1, h2 hh⟩⟩).imp fun v H2 _ ⟨r, ev, h1, h2⟩ => ?_)
          subst ev
          congr 1
          omega
        · have hz' : here = 0 := by
            by_cases h : here = 0
            · exact h
            · have : decide (V.int here = V.int 0) = false := decide_eq_false (fun z => h (by injection z))
              rw [this] at hz; cases hz
          subst hz'
          refine ev_is (ev_var rfl) (congrArg V.int ?_)
          have : Nat.gcd (0 : Int).natAbs n.natAbs = n.natAbs := by simp
          rw [this]
          omega
        · refine s_app (e2 l _ hacc) (ev_var rfl) (ev_var rfl) (by rw [List.length_map]; omega) fun H3 e3 => ?_
          refine ⟨acc ++ [((Nat.gcd here.natAbs n.natAbs : Nat) : Int)], _, _, rfl, Ex.mut ((e.trans e2).trans e3) hl1, ?_, ?_, by simp [hal], by omega⟩
          · rw [List.map_append]; exact upd_same
          · rw [hs, hd, List.append_assoc]; rfl
    · subst es
      rw [List.length_map] at hs
      rw [List.drop_length] at hs
      have hs' : shares ns = acc := by rw [hs]; exact List.append_nil _
      refine s_ret (ev_var rfl) fun H2 e2 => hQ l H2 hl1 (e.trans e2) ?_
      rw [hs']
      exact e2 l _ hacc
def rows : List (List Int) := [[1], [1], [2, 3], [2, 5], [2, 7], [3, 4], [3, 5], [3, 7], [4, 5], [4, 6, 7], [4, 6, 9], [4, 6, 13], [6, 9, 10], [4, 10, 11], [5, 6], [6, 8, 11], [8, 12, 14, 15]]
def tupI (ns : List Int) : PyData := .tuple (ns.map PyData.int)
def sp_law_g_rows (K : PySem.W.Frag) : Sp := fun vs H Q _ => ∃ (p l : Addr) (n : Nat), vs = [.ref p] ∧ Pen l n H p ∧ n ≤ 100000 ∧ ∀ ns v H', ns ∈ rows → ExX p H H' → Pen l (n + 1) H' p → Dp K H' v (tupI ns) → Q v H'
theorem ok_law_g_rows (T : Wk h0 K mg base) : ClC CX0 PP w K mg base 3 "_law_g_rows" ["pen"] (sp_law_g_rows K) := by
  obtain ⟨fd, F⟩ := f_law_g_rows T
  refine ⟨_, fd, g_law_g_rows T, F.kp, F.bindsN (fun _ _ _ _ _ _ us hl => match us, hl with | [_], _ => rfl), F.ok sc_law_g_rows (fun vs H Q E h => ?_) (fun cdv A outer s H vs Q E hr h => ⟨_, PSs.nox (pss_cons (ps_set (i := 1) sc_law_g_rows.nd rfl (Or.inl rfl) (pe_lst (pa_cons (pe_tup (pa_cons (pe_int) pa_nil)) (pa_cons (pe_tup (pa_cons (pe_int) pa_nil)) (pa_cons (pe_tup (pa_cons (pe_int) (pa_cons (pe_int) pa_nil))) (pa_cons (pe_tup (pa_cons (pe_int) (pa_cons (pe_int) pa_nil))) (pa_cons (pe_tup (pa_cons (pe_int) (pa_cons (pe_int) pa_nil))) (pa_cons (pe_tup (pa_cons (pe_int) (pa_cons (pe_int) pa_nil))) (pa_cons (pe_tup (pa_cons (pe_int) (pa_cons (pe_int) pa_nil))) (pa_cons (pe_tup (pa_cons (pe_int) (pa_cons (pe_int) pa_nil))) (pa_cons (pe_tup (pa_cons (pe_int) (pa_cons (pe_int) pa_nil))) (pa_cons (pe_tup (pa_cons (pe_int) (pa_cons (pe_int) (pa_cons (pe_int) pa_nil)))) (pa_cons (pe_tup (pa_cons (pe_int) (pa_cons (pe_int) (pa_cons (pe_int) pa_nil)))) (pa_cons (pe_tup (pa_cons (pe_int) (pa_cons (pe_int) (pa_cons (pe_int) pa_nil)))) (pa_cons (pe_tup (pa_cons (pe_int) (pa_cons (pe_int) (pa_cons (pe_int) pa_nil)))) (pa_cons (pe_tup (pa_cons (pe_int) (pa_cons (pe_int) (pa_cons (pe_int) pa_nil)))) (pa_cons (pe_tup (pa_cons (pe_int) (pa_cons (pe_int) pa_nil))) (pa_cons (pe_tup (pa_cons (pe_int) (pa_cons (pe_int) (pa_cons (pe_int) pa_nil)))) (pa_cons (pe_tup (pa_cons (pe_int) (pa_cons (pe_int) (pa_cons (pe_int) (pa_cons (pe_int) pa_nil))))) pa_nil))))))))))))))))))) (pss_one (ps_ret (pe_cl (ok_law_pick T) hr (by decide) (by rfl) (pa_cons (pv 0) (pa_cons (pv 1) pa_nil)))))), ?_⟩)⟩
  · obtain ⟨p, l, n, rfl, _⟩ := h; rfl
  · obtain ⟨p, l, n, rfl, hp, hn, hQ⟩ := h
    refine q_asgP (P := fun v H1 => Dp K H1 v (.list (rows.map tupI))) ?_ fun v H1 e1 hv => ?_
    · refine epD_lst (ds := rows.map tupI) ?_ (by decide)
      show EvAD K _ _ _ [tupI [1], tupI [1], tupI [2, 3], tupI [2, 5], tupI [2, 7], tupI [3, 4], tupI [3, 5], tupI [3, 7], tupI [4, 5], tupI [4, 6, 7], tupI [4, 6, 9], tupI [4, 6, 13], tupI [6, 9, 10], tupI [4, 10, 11], tupI [5, 6], tupI [6, 8, 11], tupI [8, 12, 14, 15]]
      repeat (first | exact ead_nil | (refine ead_cons (epD_tup ?_ (by decide)) ?_; rotate_left))
      all_goals (simp only [List.map]; repeat (first | exact ead_nil | refine ead_cons epD_int ?_))
    · obtain ⟨a, xs, rfl, sq, da⟩ := Dp.seq_inv (b := false) hv
      have hl := DpAll.length da
      have hl17 : xs.length = 17 := hl
      obtain ⟨kvs, hk⟩ := hp.isD
      refine s_retCall (ea2 (ev_var rfl) (ev_var rfl)) fun H2 e2 => ⟨p, l, n, false, a, xs, rfl, hp.ex (e1.trans e2), hn, sq.ex e2, by omega, by omega, fun k x H3 hx x3 pn => ?_⟩
      obtain ⟨d, h1, h2⟩ := DpAll.get (DpAll.ex e2 da) hx
      rw [List.getElem?_map] at h1
      cases hr' : rows[k]? with
      | none => rw [hr'] at h1; cases h1
      | some ns =>
        rw [hr'] at h1
        cases h1
        exact hQ ns x H3 (List.mem_of_getElem? hr') ((ExX.of (e1.trans e2)).trans x3) pn (Dp.exN ((e1.trans e2) _ _ hk) True.intro x3 h2)
end
end K42
set_option maxHeartbeats 0
namespace K42
open PySem PySem.Spec PyProof.Rows L2 He TC Evl
section
variable {w : World} {h0 base : Heap} {K : PySem.W.Frag} {mg : Str → Option Value}
theorem el_lshares {te : TE} {σ : L2.St} {b : Bool} {a : Addr} {ns : List Int} {H : Hp} (h : Ev te σ H (.ref a)) (sq : SqB K H b a (ns.map V.int)) (hl : ns.length ≤ 1000) (hp : posR ns = true) : EvL (tCall (sp_law_g_shares K) [] E0 (tCons te tNil)) σ H ((shares ns).map V.int) :=
  el_call (dvs := []) (ea1 h) fun H1 e Q q E => ⟨b, a, ns, rfl, sq.ex e, hl, hp, fun p H2 hp e2 h2 => q p H2 hp e2 h2⟩
def sp_law_t_cable (K : PySem.W.Frag) : Sp := fun vs H Q _ => ∃ (a : Addr) (ns : List Int), vs = [.ref a] ∧ SqT K H a (ns.map V.int) ∧ okRow ns = true ∧ posR ns = true ∧ ∀ v H', Ex H H' → Dp K H' v (cabD false (cabOf ns)) → Q v H'
theorem ok_law_t_cable (T : Wk h0 K mg base) : ClC CX0 PP w K mg base 3 "_law_t_cable" ["row"] (sp_law_t_cable K) := by
  obtain ⟨fd, F⟩ := f_law_t_cable T
  refine ⟨_, fd, g_law_t_cable T, F.kp, F.bindsN (fun _ _ _ _ _ _ us hl => match us, hl with | [_], _ => rfl), F.ok sc_law_t_cable (fun vs H Q E h => ?_) (fun cdv A outer s H vs Q E hr h => ⟨_, PSs.nox (pss_cons (ps_par (i := 1) (j := 2) (by rfl) sc_law_t_cable.nd rfl rfl (by decide) rfl rfl (pa_cons (pe_cl (ok_law_g_shares T) hr (by decide) (by rfl) (pa_cons (pv 0) pa_nil)) (pa_cons (pe_lst pa_nil) pa_nil)) (by rfl)) (pss_cons (ps_for PassesOwn.never rfl (pi_range2 (by rfl) (m_range T) (pa_cons (pe_int) (pa_cons (pe_callB (call_lenK (K := K) rfl) (by rfl) (m_len T) boot_len (pa_cons (pv 0) pa_nil)) pa_nil))) (pg_name (i := 3) sc_law_t_cable.nd rfl (Or.inl rfl)) (pss_cons (ps_set (i := 4) sc_law_t_cable.nd rfl (Or.inl rfl) (pe_op op_fdivN (pe_ix (ix_seqK (K := K) rfl) (pv 1) (pe_op op_sub (pv 3) (pe_int)) (fun _ _ => rfl)) (pe_ix (ix_seqK (K := K) rfl) (pv 1) (pv 3) (fun _ _ => rfl)))) (pss_cons (ps_set (i := 5) sc_law_t_cable.nd rfl (Or.inl rfl) (pe_ifExp (pt_cmpR (op_eq) (pv 3) (pe_int) (nomark _)) (pe_op op_fdivN (pe_ix (ix_seqK (K := K) rfl) (pv 0) (pe_int) (fun _ _ => rfl)) (pe_ix (ix_seqK (K := K) rfl) (pv 1) (pe_int) (fun _ _ => rfl))) (pe_op op_add (pe_op op_mul (pe_op op_mul (pe_ix (ix_seqK (K := K) rfl) (pe_ix (ix_seqK (K := K) rfl) (pv 2) (pe_un un_neg (pe_int)) (fun _ _ => rfl)) (pe_int) (fun _ _ => rfl)) (pe_ix (ix_seqK (K := K) rfl) (pe_ix (ix_seqK (K := K) rfl) (pv 2) (pe_un un_neg (pe_int)) (fun _ _ => rfl)) (pe_int) (fun _ _ => rfl))) (pv 4)) (pe_op op_fdivN (pe_callTy call_int1 (by rfl) (m_int T) (by decide +kernel) (pa_cons (pe_op op_sub (pe_ix (ix_seqK (K := K) rfl) (pv 0) (pv 3) (fun _ _ => rfl)) (pe_ix (ix_seqK (K := K) rfl) (pv 0) (pe_op op_sub (pv 3) (pe_int)) (fun _ _ => rfl))) pa_nil)) (pe_ix (ix_seqK (K := K) rfl) (pv 1) (pv 3) (fun _ _ => rfl)))))) (pss_one (ps_expr (pe_bm PySem.F.plainAttrs_list PySem.F.slot_list_append PySem.F.type_list_append mt_append (pv 2) (pa_cons (pe_tup (pa_cons (pv 4) (pa_cons (pv 5) pa_nil))) pa_nil))))))) (pss_one (ps_ret (pv 2))))), ?_⟩)⟩
  · obtain ⟨a, ns, rfl, _⟩ := h; rfl
  · obtain ⟨a, ns, rfl, sq, hok, hpo, hQ⟩ := h
    have ok := okRow_iff hok
    have hl5 := ok.len
    refine q_parLL (el_lshares (b := true) (ev_var rfl) sq (by omega) hpo) (el_lst ea_nil (by decide)) fun l f H1 hl hf e1 hl1 hf1 => ?_
    have slen : (shares ns).length = ns.length := shGo_len ns 0
    have rwi : ∀ {σ : L2.St} {te ti : TE} {H' : Hp} {i : Nat}, Ex H H' → i < ns.length → Ev te σ H' (.ref a) → Ev ti σ H' (.int (i : Int)) → Ev (tOp (rIxA K) te ti) σ H' (.int (sN ns i)) := fun {σ te ti H' i} e hi h h2 => ev_ixA (b := true) h h2 (ex_t e sq) (atI_int hi)
    have prev : ∀ {σ : L2.St} {te : TE} {H1 : Hp} {i : Nat}, 1 ≤ i → Ev te σ H1 (.int (i : Int)) → Ev (tOp (rI0 fun i j => .int (i - j)) te (tC (.int 1))) σ H1 (.int ((i - 1 : Nat) : Int)) := fun {σ te H1 i} h1 h => ev_is (ev_op h ev_c rv_I0) (by congr 1; omega)
    have hlf : l ≠ f := fun z => by
      have h1 := hl1; have h2 := hf1
      rw [z, h2] at h1
      have h3 := congrArg (fun o : Option HO => match o with | some (.lst ys) => ys.length | _ => 0) h1
      simp at h3
      have := ok.pos
      omega
    refine q_forR2 (lo := 1) (n := (ns.length : Int)) (ea2 ev_c (ev_is (ev_lenA (b := true) (ev_var rfl) (ex_t e1 sq)) (by rw [List.length_map]))) ⟨by decide, by decide, by omega, by omega⟩
      (fun i σ' H' => ∃ (x3 x4 x5 : Option V) (xs : List V), σ' = [some (.ref a), some (.ref l), some (.ref f), x3, x4, x5] ∧ Ex H H' ∧ H' l = some (.lst ((shares ns).map V.int)) ∧ H' f = some (.lst xs) ∧ DpAll K H' xs ((cabUp ns i).map prD))
      (fun H2 e2 => ⟨none, none, none, [], rfl, e1.trans e2, e2 l _ hl1, e2 f _ hf1, .nil⟩) (fun i σ' H' hi ⟨x3, x4, x5, xs, es, e, hl2, hf2, hd⟩ => ?_) (fun σ' H' ⟨x3, x4, x5, xs, es, e, hl2, hf2, hd⟩ => ?_)
    · subst es
      have hi' : i + 1 < ns.length := by omega
      have ei : (1 : Int) + (i : Int) = ((i + 1 : Nat) : Int) := by omega
      rw [ei]
      have hxl : xs.length = i := by have := DpAll.length hd; rw [List.length_map, cabUp_len] at this; exact this
      have shi : ∀ {σ : L2.St} {te ti : TE} {H2 : Hp} {i : Nat}, Ex H' H2 → i < ns.length → Ev te σ H2 (.ref l) → Ev ti σ H2 (.int (i : Int)) → Ev (tOp (rIxA K) te ti) σ H2 (.int (sS ns i)) := fun {σ te ti H' i} e hi h h2 => ev_ixA h h2 (SqB.l (sq_of (e l _ hl2))) (atI_int (by omega))
      have s0 := ok.s0 (i + 1) hi'
      have s1 := ok.s1 (i + 1) hi'
      refine q_asg (v := .int (pF ns (i + 1))) (ev_op (shi (i := i) (Ex.refl _) (by omega) (ev_var rfl) (prev (i := i + 1) (by omega) (ev_var rfl))) (shi (i := i + 1) (Ex.refl _) hi' (ev_var rfl) (ev_var rfl)) (rv_I ⟨by omega, by omega⟩)) fun H2 e2 => ?_
      refine q_asg (v := .int (aF ns (i + 1))) (ev_if (b := decide (i = 0)) (et_is (et_test (ev_op (ev_var rfl) ev_c (rv_eq rfl))) ((nat_beq_v (n := i + 1) (m := 1)).trans (by by_cases h : i = 0 <;> simp [h]))) (fun hz => ?_) (fun hz => ?_)) fun H3 e3 => ?_
      · have hz' : i = 0 := of_decide_eq_true hz
        subst hz'
        have t0 : 0 < sS ns 1 := ok.s0 1 (by omega)
        have t1 : sS ns 1 < 2 ^ 30 := ok.s1 1 (by omega)
        exact ev_op (rwi (i := 1) (e.trans e2) hi' (ev_var rfl) ev_c) (shi (i := 1) e2 hi' (ev_var rfl) ev_c) (rv_I ⟨by omega, by omega⟩)
      · have hz' : i ≠ 0 := of_decide_eq_false hz
        obtain ⟨m, rfl⟩ : ∃ m, i = m + 1 := ⟨i - 1, by omega⟩
        have hb1 := ok.a (m + 1) (by omega)
        have hb2 := ok.p (m + 1) (by omega)
        have hb3 := ok.p (m + 1 + 1) (by omega)
        have lastI : ∃ c, xs[xs.length - 1]? = some (.ref c) ∧ SqT K H' c [.int (pF ns (m + 1)), .int (aF ns (m + 1))] := by
          obtain ⟨c, h1, h2⟩ := cab_at' hd (k := m) (by rw [cabUp_len]; omega)
          have eg : (cabUp ns (m + 1)).getD m (0, 0) = (pF ns (m + 1), aF ns (m + 1)) := by
            rw [cabUp_succ, List.getD_eq_getElem?_getD, List.getElem?_append_right (by rw [cabUp_len]; exact Nat.le_refl _), cabUp_len]
            simp
          rw [eg] at h2
          exact ⟨c, by rw [hxl]; exact h1, h2⟩
        obtain ⟨c, hc1, hc2⟩ := lastI
        have fl : ∀ {σ : L2.St}, σ[2]? = some (some (.ref f)) → Ev (tOp (rIxA K) (tVar 2) (tUn (rU fun i => .int (-i)) (tC (.int 1)))) σ H2 (.ref c) := fun {σ} hσ => ev_ixA (ev_var hσ) (ev_un ev_c ru_neg) (SqB.l (sq_of (e2 f _ hf2))) (atI_m1 hc1)
        have sq' : SqT K H2 c [.int (pF ns (m + 1)), .int (aF ns (m + 1))] := ex_t e2 hc2
        exact ev_op (x := .int (aF ns (m + 1) * pF ns (m + 1) * pF ns (m + 1 + 1))) (y := .int ((sN ns (m + 1 + 1) - sN ns (m + 1)).fdiv (sS ns (m + 1 + 1))))
          (ev_op (ev_op (ev_ixA (b := true) (i := 1) (fl rfl) ev_c sq' (atI_n (i := 1) rfl)) (ev_ixA (b := true) (i := 0) (fl rfl) ev_c sq' (atI_n (i := 0) rfl)) (rv_I (cmul (.inl hb1)))) (ev_var rfl) (rv_I (cmul (.inr hb3))))
          (ev_op (ev_int1 (ev_op (rwi (i := m + 1 + 1) (e.trans e2) hi' (ev_var rfl) (ev_var rfl)) (rwi (i := m + 1) (e.trans e2) (by omega) (ev_var rfl) (prev (i := m + 1 + 1) (by omega) (ev_var rfl))) rv_I0)) (shi (i := m + 1 + 1) e2 hi' (ev_var rfl) (ev_var rfl)) (rv_I ⟨by omega, by omega⟩)) rv_I0
      · refine s_appP (P := fun v H4 => Dp K H4 v (prD (pF ns (i + 1), aF ns (i + 1)))) ((e2.trans e3) f _ hf2) (ev_var rfl) (ep_pair (ev_var rfl) (ev_var rfl) (.int _) (.int _)) (by rw [hxl]; omega) fun v H4 e4 hv => ?_
        have hf3 : H4 f = some (.lst xs) := ((e2.trans e3).trans e4) f _ hf2
        refine ⟨_, _, _, xs ++ [v], rfl, Ex.mut (((e.trans e2).trans e3).trans e4) hf, by rw [upd_ne hlf]; exact ((e2.trans e3).trans e4) l _ hl2, upd_same, ?_⟩
        rw [cabUp_succ]
        exact prs_X hf3 ExX.upd (by rw [List.map_append]; exact DpAll.snoc (DpAll.ex ((e2.trans e3).trans e4) hd) hv)
    · subst es
      have en : ((ns.length : Int) - 1).toNat = ns.length - 1 := by omega
      rw [en] at hd
      exact s_ret (ev_var rfl) fun H2 e2 => hQ _ H2 (e.trans e2) (Dp.seq (b := false) (sq_of (e2 f _ hf2)) (DpAll.ex e2 hd))
end
end K42
set_option maxHeartbeats 0
namespace K42
open PySem PySem.Spec PyProof.Rows L2 He TC Evl
section
variable {X : Cx}
end
/-- what a caught error gives -/
def Wish (K : PySem.W.Frag) (cls : Value) (d : Option Addr) (H' : Hp) (Q : VK) : Prop :=
  (∃ dd x dt, cls = .ref (ga K "BadRow") ∧ d = some dd ∧ H' dd = some (.xd [("value", x)]) ∧ Dp K H' x dt ∧ dt.showable = true ∧ dt.hasDict = false ∧ dt.depth ≤ 60 ∧ dt.shown.length ≤ sizeLine ∧ ∀ v H2, Ex H' H2 → Dp K H2 v (.tuple [.str "row", .str dt.shown]) → Q v H2) ∨
  (∃ dd x, cls = .ref (ga K "BadCharacters") ∧ d = some dd ∧ H' dd = some (.xd [("answer", x)]) ∧ ∀ v H2, Ex H' H2 → (∃ t, v = .ref t ∧ SqT K H2 t [.str "characters", x]) → Q v H2)
section
variable {w : World} {h0 base : Heap} {K : PySem.W.Frag} {mg : Str → Option Value}
def sp_caught (w : World) (K : PySem.W.Frag) (mg : Str → Option Value) (base : Heap) : Sp := fun vs H Q _ => ∃ f : Addr, vs = [.ref f] ∧ Thunk PP w K mg base 12 f H (fun _ _ => False) (fun cls d H' => Wish K cls d H' Q)
theorem exm (T : Wk h0 K mg base) {q : Str × Str × Bool} (h : q ∈ ml) : PySem.W.exmOne K (.ref (ga K q.1)) (.ref (ga K q.2.1)) = some q.2.2 := exm_ok (List.all_eq_true.mp T.ex.2.2.2.2.2.1 q h)
theorem ev_repr {σ : L2.St} {H : Hp} {te : TE} {x : V} {dt : PyData} (h : Ev te σ H x) (hd : Dp K H x dt) (h1 : dt.showable = true) (h2 : dt.hasDict = false) (h3 : dt.depth ≤ 60) (h4 : dt.shown.length ≤ sizeLine) : Ev (tCB (rRepr K) (tCons te tNil)) σ H (.str dt.shown) := fun H1 e Q q =>
  h H1 e _ fun H2 e2 => ⟨x, dt, rfl, Dp.ex (e.trans e2) hd, h1, h2, h3, h4, q H2 e2⟩
theorem ev_xf {σ : L2.St} {H : Hp} {te : TE} {a dd C : Addr} {f : Str} {x : V} (h : Ev te σ H (.ref a)) (hd : H dd = some (.xd [(f, x)])) : Ev (tXf a (.ref C) (some dd) C f te) σ H x := fun H1 e Q q =>
  h H1 e _ fun H2 e2 => ⟨rfl, rfl, dd, _, x, rfl, (e.trans e2) _ _ hd, by simp [List.lookup], q H2 e2⟩
theorem call_reprK {X : Cx} {K : PySem.W.Frag} (h : X.K = K) (hg : X.A.guards = some []) (hu : X.A.units + 64 < cLine) : CallR X (.builtin "repr") (rRepr K) := by
  subst h
  exact call_reprD hg hu
theorem never_takes {X : Cx} : Takes X (fun _ _ _ _ => False) := fun u s' x => by
  obtain ⟨_, _, _, _, _, _, _, _, _, _, _, _, _, _, _, _, _, z⟩ := x
theorem ok_caught (T : Wk h0 K mg base) : ∃ f fd, mg "_law_g_caught" = some (.ref f) ∧ PySem.W.keepIn K (.ref f) = true ∧ Binds K fd ["call"] [] ∧ FnG PP w K mg base CX0 13 f fd ["call"] (sp_caught w K mg base) := by
  obtain ⟨fd, F⟩ := f_law_g_caught T
  refine ⟨_, fd, g_law_g_caught T, F.kp, F.bindsN (fun _ _ _ _ _ _ us hl => match us, hl with | [_], _ => rfl), TC.FunD.okG F sc_law_g_caught (fun vs H Q E h => ?_) (fun cdv A outer s H vs Q E hcd hfd hr hg h => ⟨_, pss_one (ps_try_clauses rfl rfl sc_law_g_caught.nd (Wout := fun _ _ _ _ => False) never_takes (fun W pn xe tk _ => pss_one (ps_ret (pe_tup (pa_cons pe_str (pa_cons (show PE _ _ (tThunkS PP w K mg base 12 0 W) from pe_thunkS (i := 0) (k := 12) hr hg tk rfl (.inl rfl)) pa_nil)))))
    (.named (i := 1) ⟨rfl, by decide, .inl (g_BadItem T)⟩ rfl rfl (fun a oe cls d pn hz hf => pss_never)
    (.named (i := 1) ⟨rfl, by decide, .inl (g_BadNumber T)⟩ rfl rfl (fun a oe cls d pn hz hf => pss_never)
    (.named (i := 1) ⟨rfl, by decide, .inl (g_BadRow T)⟩ rfl rfl (fun a oe cls d pn hz hf => pss_one (ps_ret (pe_tup (pa_cons pe_str (pa_cons (pe_callB (call_reprK (K := K) rfl hg hr.units) (by rfl) (m_repr T) boot_repr (pa_cons (pe_xf (xls T (p := ("BadRow", ["value"])) (by decide)).xf ((xls T (p := ("BadRow", ["value"])) (by decide)).noat "value" (by decide)) hz hf (pv 1)) pa_nil)) pa_nil)))))
    (.named (i := 1) ⟨rfl, by decide, .inl (g_BadCharacters T)⟩ rfl rfl (fun a oe cls d pn hz hf => pss_one (ps_ret (pe_tup (pa_cons pe_str (pa_cons (pe_xf (xls T (p := ("BadCharacters", ["answer"])) (by decide)).xf ((xls T (p := ("BadCharacters", ["answer"])) (by decide)).noat "answer" (by decide)) hz hf (pv 1)) pa_nil)))))
    (.named (i := 1) ⟨rfl, by decide, .inl (g_BadType T)⟩ rfl rfl (fun a oe cls d pn hz hf => pss_never)
    (.named (i := 1) ⟨rfl, by decide, .inl (g_BadCurve T)⟩ rfl rfl (fun a oe cls d pn hz hf => pss_never)
    (.named (i := 1) ⟨rfl, by decide, .inl (g_NotBranched T)⟩ rfl rfl (fun a oe cls d pn hz hf => pss_never)
    (.named (i := 1) ⟨rfl, by decide, .inl (g_NotStraight T)⟩ rfl rfl (fun a oe cls d pn hz hf => pss_never)
    (.bare ⟨rfl, by decide, .inl (g_NotOf T)⟩ (fun a oe cls d pn hz hf => pss_never)
    (.bare ⟨rfl, by decide, .inl (g_SharesBranch T)⟩ (fun a oe cls d pn hz hf => pss_never)
    (.named (i := 1) ⟨rfl, by decide, .inl (g_TooMany T)⟩ rfl rfl (fun a oe cls d pn hz hf => pss_never) .nil)))))))))))), ?_⟩)⟩
  · obtain ⟨f, rfl, _⟩ := h; rfl
  · obtain ⟨f, rfl, th⟩ := h
    refine ⟨f, rfl, th.imp (fun _ _ z => z.elim) fun cls d H' hw => ?_⟩
    rcases hw with ⟨dd, x, dt, rfl, rfl, hdd, hx, h1, h2, h3, h4, hQ⟩ | ⟨dd, x, rfl, rfl, hdd, hQ⟩
    · refine ⟨false, exm T (q := ("BadRow", "BadItem", false)) (by decide), (fun h => Bool.noConfusion h), fun _ => ⟨false, exm T (q := ("BadRow", "BadNumber", false)) (by decide), (fun h => Bool.noConfusion h), fun _ => ⟨true, exm T (q := ("BadRow", "BadRow", true)) (by decide), fun _ a ha => ?_, (fun h => Bool.noConfusion h)⟩⟩⟩
      exact s_retP (ep_pair (d1 := .str "row") (d2 := .str dt.shown) ev_c (ev_repr (ev_xf (ev_var rfl) hdd) hx h1 h2 h3 h4) (.str _) (.str _)) fun v H2 e2 hv => hQ v H2 e2 hv
    · refine ⟨false, exm T (q := ("BadCharacters", "BadItem", false)) (by decide), (fun h => Bool.noConfusion h), fun _ => ⟨false, exm T (q := ("BadCharacters", "BadNumber", false)) (by decide), (fun h => Bool.noConfusion h), fun _ => ⟨false, exm T (q := ("BadCharacters", "BadRow", false)) (by decide), (fun h => Bool.noConfusion h), fun _ => ⟨true, exm T (q := ("BadCharacters", "BadCharacters", true)) (by decide), fun _ a ha => ?_, (fun h => Bool.noConfusion h)⟩⟩⟩⟩
      exact s_retU (eu_tup (ea2 ev_c (ev_xf (ev_var rfl) hdd)) (by show (2 : Nat) ≤ 100000; decide)) fun p H2 _ e2 h2 => hQ _ H2 e2 ⟨p, rfl, st_of h2⟩
end
end K42
set_option maxHeartbeats 2000000
/-! An operator by an own method (both of one class); bool - bool. -/
namespace TC
open PySem PySem.Spec PyProof.Rows L2
theorem int_sub_bool_bool (a b : Bool) : Gives (Builtin.«int.__sub__» ⟨[.bool a, .bool b], []⟩) (.int ((if a = true then (1 : Int) else 0) - (if b = true then (1 : Int) else 0))) :=
  .of_wp fun M A E s Q h => by obtain ⟨hp, g, d, tk, os⟩ := s; wp_walk; exact ⟨_, rfl, h⟩
def bI (b : Bool) : Int := if b = true then 1 else 0
section
variable {prog : Program} {w : World} {A : Around} {E : Value → Shared → Prop} {s : Shared} {Q : Value → Shared → Prop}
theorem sub_bool_bool {a b : Bool} (h : Q (.int (bI a - bI b) s.toks) { s with toks := s.toks + 1 }) : wpAny (model prog w) A (binaryOp .Sub (.bool a) (.bool b)) Q E s :=
  binaryOp_gives (op := .Sub) (T := "bool") rfl rfl F.fills_bool_sub F.slot_bool_sub F.entry_int_sub (F.args_int_sub_2 _ _) (int_sub_bool_bool a b) trivial h
end
section
variable {X : Cx} {CX : CXT} {n : Nat} {C f : Addr} {fd : FuncData} {ps : List Str} {sp : Sp} {E : XK} {op : Operator} {nm : Str}
def rSubB : R2 := fun x y H Q => ∃ a b, x = .bl a ∧ y = .bl b ∧ Q (.int (bI a - bI b)) H
theorem op_subB : OpR X (binaryOp .Sub) rSubB := by
  intro pins s σ H x y v u Q I rx ry h
  obtain ⟨a, b, rfl, rfl, q⟩ := h
  cases rx
  cases ry
  exact sub_bool_bool ⟨.int (bI a - bI b), H, I.tok _, ⟨_, rfl⟩, q⟩
/-- x op y by x's own method; y of the same class -/
def rBin (C : Addr) (sp : Sp) (E : XK) : R2 := fun x y H Q => ∃ a b dx dy fs gs, x = .ref a ∧ y = .ref b ∧ H a = some (.ins C dx fs) ∧ H b = some (.ins C dy gs) ∧ sp [x, y] H (fun v H' => (∃ c, v = .ref c) ∧ Q v H') E
theorem op_bin (F : FnOk X.prog X.w X.K X.mg X.base CX n f fd ps sp) (hc : PySem.W.selfFirst X.K C = true) (hs : PySem.W.findIn X.K (.ref C) nm = some (some (.ref f))) (hn : PySem.dunder op.info.2 = nm) (hf : PySem.W.isFn X.K (.ref f) = true) (hr : Room n X.A) (hb : Binds X.K fd ps []) (hx : Passes CX X E) : OpR X (binaryOp op) (rBin C sp E) := by
  intro pins s σ H x y v u Q I rx ry h
  obtain ⟨a, b, dx, dy, fs, gs, rfl, rfl, ha, hb', hsp⟩ := h
  cases rx
  cases ry
  obtain ⟨mA, J, _⟩ := ins_get I.hok ha
  obtain ⟨mB, J', _⟩ := ins_get I.hok hb'
  obtain ⟨od, J, _⟩ := J.look
  obtain ⟨od', J', _⟩ := J'.look
  obtain ⟨m, hF⟩ := I.fr
  subst hn
  refine PySem.W.binop_K (op := op) hF I.ok.mod.kin J J'.type hc hs hf ?_
  have hl := F.len _ _ _ _ hsp
  have r2 : Vals [V.ref a, V.ref b] [Value.ref a, Value.ref b] := .cons rfl (.cons rfl .nil)
  refine wpAny_call (codeAny_mono (F.run X.A X.stack s H ⟨[.ref a, .ref b], []⟩ [.ref a, .ref b] [.ref a, .ref b] _ E hr I.env0 (by
    have := hb s [.ref a, .ref b] I.kIn (by simpa using hl)
    simpa using this) r2 hsp) fun r s' hq => ?_)
  cases r with
  | error e => exact hx pins σ H s e s' I hq
  | ok fl =>
    cases fl with
    | ret w =>
      obtain ⟨z, H', I', rz, ⟨c, ez⟩, q⟩ := I.after hq
      subst ez
      cases rz
      exact ⟨.ref c, H', I', rfl, q⟩
    | next => exact False.elim hq
    | brk => exact False.elim hq
    | cont => exact False.elim hq
end
/-- instances made with the default values dvs behind the given ones -/
structure MkD (CX : CXT) (P : Program) (w : World) (K : PySem.W.Frag) (mg : Str → Option Value) (base : Heap) (k : Nat) (x : Str) (C : Addr) (ps : List Str) (dvs : List V) (sp : Sp) : Prop where
  ex : ∃ (f : Addr) (fd : FuncData) (ds : List Value), mg x = some (.ref C) ∧ Mk K C f ∧ Binds K fd ps ds ∧ Vals dvs ds ∧ FnOk P w K mg base CX k f fd ps sp
section
variable {X : Cx} {k j : Nat} {x : Str} {C : Addr} {ps : List Str} {dvs : List V} {sp : Sp} {p pos : Pos} {e : Expr} {es : List Expr} {t : TA} {E : XK}
theorem pe_mkd (c : MkD CX0 X.prog X.w X.K X.mg X.base k x C ps dvs sp) (hr : Room j X.A) (hk : k + 1 ≤ j) (hg : Gl X x) (ha : PA X (e :: es) t)
    (hdb : (x == ("__debug__" : Str)) = false := by decide) (he : starEach (e :: es) X.env = (false, eval e X.env) :: starEach es X.env := by rfl) (hpl : (backTo pos (starEach es X.env)).any (·.1) = false := by rfl) :
    PE X (.Call (.Name x p) (e :: es) [] pos) (tMake C sp dvs E0 t) := by
  obtain ⟨f, fd, ds, hm, M, b, hv, F⟩ := c.ex
  exact pe_make M F (hr.mono hk) hg hm b hv (fun _ _ _ _ _ _ _ h => h.elim) ha hdb he hpl
end
section
variable {K : PySem.W.Frag} {σ : L2.St} {H : Hp} {ta : TA}
open Evl
theorem ep_makeD {sp : Sp} {vs dvs : List V} {C : Addr} {Pa : Addr → Hp → Prop} {E : XK} (h : EvA ta σ H vs) (hs : SpMk sp (vs ++ dvs) H C Pa) : EvP (tMake C sp dvs E ta) σ H (fun v H1 => ∃ x, v = .ref x ∧ Pa x H1) := fun H1 e Q q =>
  h H1 e _ fun H2 e2 x dx nx nd ne => by
    refine hs H2 (e.trans e2) x dx nx nd ne _ E fun H3 e3 p => ⟨rfl, q _ H3 (e2.trans fun a o ha => ?_) ⟨x, rfl, p⟩⟩
    have a1 : a ≠ x := fun z => by rw [z, nx] at ha; cases ha
    exact e3 _ _ a1 (ex_mk nx nd ne _ _ ha)
end
end TC
set_option maxHeartbeats 0
/-! The walks: Ratio. -/
namespace K42
open PySem PySem.Spec PyProof.Rows L2 He TC Evl
def raF (a b : Int) : List (Str × V) := [("top", .int a), ("bottom", .int b), ("sign", .int (bI (decide (0 < a)) - bI (decide (a < 0)))), ("whole", .bl (decide (V.int b = V.int 1)))]
/-- a Ratio -/
def RaA (K : PySem.W.Frag) (a b : Int) (v : V) (H : Hp) : Prop := ∃ x dx, v = .ref x ∧ H x = some (.ins (ga K "Ratio") dx (raF a b))
def rG (a b : Int) : Int := ((Nat.gcd a.natAbs b.natAbs : Nat) : Int)
def rT (a b : Int) : Int := a.fdiv (rG a b)
def rB (a b : Int) : Int := b.fdiv (rG a b)
theorem rG_one (a : Int) : rG a 1 = 1 := by
  unfold rG
  rw [show (1 : Int).natAbs = 1 from rfl, Nat.gcd_one_right]
  rfl
theorem rT_one (a : Int) : rT a 1 = a := by unfold rT; rw [rG_one, Int.fdiv_one]
theorem rB_one (a : Int) : rB a 1 = 1 := by unfold rB; rw [rG_one]; rfl
theorem rG_pos {a b : Int} (h : 0 < b) : 0 < rG a b := by
  unfold rG
  have := Nat.gcd_pos_of_pos_right a.natAbs (n := b.natAbs) (by omega)
  omega
theorem rG_le {a b : Int} (h : 0 < b) : rG a b ≤ b := by
  unfold rG
  have := Nat.gcd_le_right a.natAbs (n := b.natAbs) (by omega)
  omega
section
variable {w : World} {h0 base : Heap} {K : PySem.W.Frag} {mg : Str → Option Value}
theorem monRa {a b : Int} : MonP (RaA K a b) := fun v H H' e ⟨x, dx, h1, h2⟩ => ⟨x, dx, h1, e _ _ h2⟩
theorem rv_subB {H : Hp} {a b : Bool} : RV rSubB (.bl a) (.bl b) H (.int (bI a - bI b)) := fun H1 e Q q => ⟨a, b, rfl, rfl, q H1 (Ex.refl H1)⟩
def sp_Ratio_init (K : PySem.W.Frag) : Sp := fun vs H Q _ => ∃ (x dx : Addr) (a b : Int), vs = [.ref x, .int a, .int b] ∧ 0 < b ∧ b < 2 ^ 30 ∧ H x = some (.ins (ga K "Ratio") dx []) ∧ ∀ H', ExX x H H' → H' x = some (.ins (ga K "Ratio") dx (raF (rT a b) (rB a b))) → Q .non H'
theorem fn_Ratio_init (T : Wk h0 K mg base) {fd : FuncData} (F : FunD K "__init__" "Ratio.__init__" (defArgs s_Ratio_init) (defBody s_Ratio_init) (defScope s_Ratio_init) [.int 1] [] (ma K (ga K "Ratio") "__init__") fd) : FnOk PP w K mg base CX0 2 (ma K (ga K "Ratio") "__init__") fd ["self", "top", "bottom"] (sp_Ratio_init K) := by
  refine F.ok sc_Ratio_init (fun vs H Q E h => ?_) (fun cdv A outer s H vs Q E hr h => ⟨_, PSs.nox (pss_cons (ps_if (pt_not (pt_val (pe_cl (ok_is_integer T) hr (by decide) (by rfl) (pa_cons (pv 1) pa_nil)))) pss_never pss_nil) (pss_cons (ps_if (PW.pt (pw_or (pt_not (pt_val (pe_cl (ok_is_integer T) hr (by decide) (by rfl) (pa_cons (pv 2) pa_nil)))) (pw_or1 (pt_cmpR (op_eq) (pv 2) (pe_int) (nomark _))))) pss_never pss_nil) (pss_cons (ps_set (i := 3) sc_Ratio_init.nd rfl (Or.inl rfl) (pe_ifExp (pt_cmpR (op_gt) (pv 2) (pe_int) (nomark _)) (pe_callBfun cr_gcd (by rfl) (m_gcd T) (pa_cons (pv 1) (pa_cons (pv 2) pa_nil))) (pe_un un_neg (pe_callBfun cr_gcd (by rfl) (m_gcd T) (pa_cons (pv 1) (pa_cons (pv 2) pa_nil)))))) (pss_cons (ps_fld (pv 0) (pe_op op_fdivN (pv 1) (pv 3)) rfl) (pss_cons (ps_fld (pv 0) (pe_op op_fdivN (pv 2) (pv 3)) rfl) (pss_cons (ps_fld (pv 0) (pe_op op_subB (pe_cmpR (op_gt) (pe_fld (pv 0) rfl) (pe_int) (nomark _)) (pe_cmpR (op_lt) (pe_fld (pv 0) rfl) (pe_int) (nomark _))) rfl) (pss_one (ps_fld (pv 0) (pe_cmpR (op_eq) (pe_fld (pv 0) rfl) (pe_int) (nomark _)) rfl)))))))), ?_⟩)
  · obtain ⟨x, dx, a, b, rfl, _⟩ := h; rfl
  · obtain ⟨x, dx, a, b, rfl, hb0, hb1, hx, hQ⟩ := h
    have g0 := rG_pos (a := a) hb0
    have g1 := rG_le (a := a) hb0
    refine q_when (et_not (et_B (ev_is_integer (ev_var rfl) (.int a)))) (fun h => by cases h) (fun _ H1 e1 => ?_)
    refine q_when (b := false || decide (V.int b = V.int 0)) (et_or (et_not (et_B (ev_is_integer (ev_var rfl) (.int b)))) (fun _ => et_test (ev_op (ev_var rfl) ev_c (rv_eq rfl)))) (fun h => ?_) (fun _ H2 e2 => ?_)
    · rw [Bool.false_or] at h
      have := of_decide_eq_true h
      injection this with z
      omega
    refine q_asg (v := .int (rG a b)) (ev_if (b := decide (0 < b)) (et_test (ev_op (ev_var rfl) ev_c rv_I0)) (fun _ => ev_gcd (ea2 (ev_var rfl) (ev_var rfl))) (fun hn => absurd hb0 (of_decide_eq_false hn))) fun H3 e3 => ?_
    have E3 := (e1.trans e2).trans e3
    refine q_fld (P := fun v _ => v = .int (rT a b)) (Ev.p (ev_op (ev_var rfl) (ev_var rfl) (rv_I ⟨by omega, by omega⟩))) (ev_var rfl) (E3 _ _ hx) (c_Ratio T) (n_Ratio_top T) (by decide) fun v H4 H5 e4 e5 ev => ?_
    subst ev
    refine q_fld (P := fun v _ => v = .int (rB a b)) (Ev.p (ev_op (ev_var rfl) (ev_var rfl) (rv_I ⟨by omega, by omega⟩))) (ev_var rfl) upd_same (c_Ratio T) (n_Ratio_bottom T) (by show (1 : Nat) < 1000; decide) fun v H6 H7 e6 e7 ev => ?_
    subst ev
    refine q_fld (P := fun v _ => v = .int (bI (decide (0 < rT a b)) - bI (decide (rT a b < 0)))) (Ev.p (ev_op (ev_op (ev_fld (ev_var rfl) upd_same (c_Ratio T) (n_Ratio_top T) rfl) ev_c rv_I0) (ev_op (ev_fld (ev_var rfl) upd_same (c_Ratio T) (n_Ratio_top T) rfl) ev_c rv_I0) rv_subB)) (ev_var rfl) upd_same (c_Ratio T) (n_Ratio_sign T) (by show (2 : Nat) < 1000; decide) fun v H8 H9 e8 e9 ev => ?_
    subst ev
    refine s_fld (P := fun v _ => v = .bl (decide (V.int (rB a b) = V.int 1))) (Ev.p (ev_op (ev_fld (ev_var rfl) upd_same (c_Ratio T) (n_Ratio_bottom T) rfl) ev_c (rv_eq rfl))) (ev_var rfl) upd_same (c_Ratio T) (n_Ratio_whole T) (by show (3 : Nat) < 1000; decide) fun v H10 H11 e10 e11 ev => ?_
    subst ev
    exact hQ _ (((((((((ExX.of E3).trans (ExX.of (e4.trans e5))).trans ExX.upd).trans (ExX.of (e6.trans e7))).trans ExX.upd).trans (ExX.of (e8.trans e9))).trans ExX.upd).trans (ExX.of (e10.trans e11))).trans ExX.upd) upd_same
theorem ok_Ratio_init1 (T : Wk h0 K mg base) : MkD CX0 PP w K mg base 2 "Ratio" (ga K "Ratio") ["self", "top", "bottom"] [.int 1] (sp_Ratio_init K) := by
  obtain ⟨fd, F⟩ := f_Ratio_init T
  obtain ⟨ds, hv, hb⟩ := F.binds1 (ps := ["self", "top", "bottom"]) 2 0 (fun z => nomatch z) rfl (fun T kV doc pm an cdv ct us its hl hi => match us, hl, its, hi with | [_, _], _, [_], _ => ⟨_, rfl, rfl⟩)
  exact ⟨_, fd, ds, g_Ratio T, k_Ratio T, hb, hv, fn_Ratio_init T F⟩
theorem ok_Ratio_init2 (T : Wk h0 K mg base) : MkD CX0 PP w K mg base 2 "Ratio" (ga K "Ratio") ["self", "top", "bottom"] [] (sp_Ratio_init K) := by
  obtain ⟨fd, F⟩ := f_Ratio_init T
  obtain ⟨ds, hv, hb⟩ := F.binds1 (ps := ["self", "top", "bottom"]) 3 1 (fun z => nomatch z) rfl (fun T kV doc pm an cdv ct us its hl hi => match us, hl, its, hi with | [_, _, _], _, [_], _ => ⟨_, rfl, rfl⟩)
  exact ⟨_, fd, ds, g_Ratio T, k_Ratio T, hb, hv, fn_Ratio_init T F⟩
theorem mk_Ratio {H : Hp} {a b : Int} (h0 : 0 < b) (h1 : b < 2 ^ 30) : SpMk (sp_Ratio_init K) [.int a, .int b] H (ga K "Ratio") (fun x H' => ∃ dx, H' x = some (.ins (ga K "Ratio") dx (raF (rT a b) (rB a b)))) :=
  fun H1 e x dx nx nd ne Q E q => ⟨x, dx, a, b, rfl, h0, h1, upd_same, fun H' e' h => q H' e' ⟨dx, h⟩⟩
/-- Ratio(a) -/
theorem ep_Ratio1 {te : TE} {σ : L2.St} {H : Hp} {a : Int} {E : XK} (h : Ev te σ H (.int a)) : EvP (tMake (ga K "Ratio") (sp_Ratio_init K) [.int 1] E (tCons te tNil)) σ H (RaA K a 1) :=
  (ep_makeD (dvs := [.int 1]) (ea1 h) (mk_Ratio (by decide) (by decide))).imp fun v H1 _ ⟨x, ev, dx, hx⟩ => ⟨x, dx, ev, by rw [rT_one, rB_one] at hx; exact hx⟩
/-- Ratio(a, b) -/
theorem ep_Ratio2 {te tx : TE} {σ : L2.St} {H : Hp} {a b : Int} {E : XK} (h : Ev te σ H (.int a)) (h2 : Ev tx σ H (.int b)) (h0 : 0 < b) (h1 : b < 2 ^ 30) : EvP (tMake (ga K "Ratio") (sp_Ratio_init K) [] E (tCons te (tCons tx tNil))) σ H (RaA K (rT a b) (rB a b)) :=
  (ep_makeD (dvs := []) (ea2 h h2) (mk_Ratio h0 h1)).imp fun v H1 _ ⟨x, ev, dx, hx⟩ => ⟨x, dx, ev, hx⟩
/-! == -/
def sp_Ratio_eq (K : PySem.W.Frag) : Sp := fun vs H Q _ => ∃ (x y dx dy : Addr) (a b c d : Int), vs = [.ref x, .ref y] ∧ H x = some (.ins (ga K "Ratio") dx (raF a b)) ∧ H y = some (.ins (ga K "Ratio") dy (raF c d)) ∧ ∀ H', Ex H H' → Q (.bl (decide (V.int a = V.int c) && decide (V.int b = V.int d))) H'
theorem ok_Ratio_eq (T : Wk h0 K mg base) : EqK PP w K mg base 1 (ma K (ga K "Ratio") "__eq__") ["self", "other"] (sp_Ratio_eq K) := by
  obtain ⟨fd, F⟩ := f_Ratio_eq T
  refine ⟨fd, F.bindsN (fun _ _ _ _ _ _ us hl => match us, hl with | [_, _], _ => rfl), F.ok sc_Ratio_eq (fun vs H Q E h => ?_) (fun cdv A outer s H vs Q E hr h => ⟨_, PSs.nox (pss_one (ps_ret ((pe_and (pe_callB (call_isi1 (K := K) rfl) (by rfl) (m_isinstance T) boot_isinstance (pa_cons (pv 1) (pa_cons (pe_glob (v := .ref (ga K "Ratio")) (by rfl) (g_Ratio T) rfl) pa_nil))) (pe_and (pe_cmpR (op_eq) (pe_fld (pv 0) rfl) (pe_fld (pv 1) rfl) (nomark _)) (pe_one (pe_cmpR (op_eq) (pe_fld (pv 0) rfl) (pe_fld (pv 1) rfl) (nomark _)))))))), ?_⟩)⟩
  · obtain ⟨x, y, dx, dy, a, b, c, d, rfl, _⟩ := h; rfl
  · obtain ⟨x, y, dx, dy, a, b, c, d, rfl, hx, hy, hQ⟩ := h
    exact s_ret (v := .bl (true && (decide (V.int a = V.int c) && decide (V.int b = V.int d)))) (ev_andV (ev_isi (ev_var rfl) (.own _) (InsC.ty (insC T (x := "Ratio") (by decide)) hy) (kit T (q := (.inr "Ratio", .inr "Ratio", true)) (by decide))) fun _ => ev_andV (ev_op (ev_fld (ev_var rfl) hx (c_Ratio T) (n_Ratio_top T) rfl) (ev_fld (ev_var rfl) hy (c_Ratio T) (n_Ratio_top T) rfl) (rv_eq rfl)) fun _ => ev_op (ev_fld (ev_var rfl) hx (c_Ratio T) (n_Ratio_bottom T) rfl) (ev_fld (ev_var rfl) hy (c_Ratio T) (n_Ratio_bottom T) rfl) (rv_eq rfl)) fun H1 e1 => hQ H1 e1
end
end K42
set_option maxHeartbeats 0
/-! The walks: numbers of ints. -/
namespace K42
open PySem PySem.Spec PyProof.Rows L2 He TC Evl
theorem cut_take {xs : List V} {k : Nat} : cutV xs none (some (k : Int)) = xs.take k := by
  unfold cutV
  have e1 : HT.sIx xs.length xs.length (some (k : Int)) = min k xs.length := HT.sIx_nat _ _ k
  rw [HT.sIx_none, e1, List.drop_zero, Nat.sub_zero]
  by_cases h : k ≤ xs.length
  · rw [Nat.min_eq_left h]
  · rw [Nat.min_eq_right (by omega), List.take_of_length_le (Nat.le_refl _), List.take_of_length_le (by omega)]
section
variable {w : World} {h0 base : Heap} {K : PySem.W.Frag} {mg : Str → Option Value}
theorem el_slL {σ : L2.St} {H : Hp} {te : TE} {a : Addr} {xs : List V} {tl th : TO} {lo hi : Option Int} (h : Ev te σ H (.ref a)) (hs : SqL K H a xs) (h1 : EvO tl σ H lo) (h2 : EvO th σ H hi) : EvL (tSl (rSlL K) te tl th) σ H (cutV xs lo hi) := fun H1 e Q q =>
  h H1 e _ fun H2 e2 => h1 H2 (e.trans e2) _ fun H3 e3 => h2 H3 ((e.trans e2).trans e3) _ fun H4 e4 => ⟨a, xs, rfl, ex_l (((e.trans e2).trans e3).trans e4) hs, fun p hp => q p _ (fresh_back ((e2.trans e3).trans e4) hp) (((e2.trans e3).trans e4).trans (Ex.new hp)) upd_same⟩
/-- an int, or a Ratio -/
def NumA (K : PySem.W.Frag) (a : Int) (v : V) (H : Hp) : Prop := v = .int a ∨ RaA K a 1 v H
theorem monNum {a : Int} : MonP (NumA K a) := fun v H H' e h => h.imp id fun z => monRa _ _ _ e z
def sp_is_number (K : PySem.W.Frag) : Sp := fun vs H Q _ => ∃ (x : V) (a : Int), vs = [x] ∧ NumA K a x H ∧ ∀ H', Ex H H' → Q (.bl true) H'
theorem ev_isint_Ra (T : Wk h0 K mg base) {te : TE} {σ : L2.St} {H : Hp} {x dx : Addr} {fs : List (Str × V)} (h : Ev te σ H (.ref x)) (hx : H x = some (.ins (ga K "Ratio") dx fs)) : Ev (tCall (sp_is_integer K) [] E0 (tCons te tNil)) σ H (.bl false) := fun H1 e Q q =>
  h H1 e _ fun H2 e2 => ⟨.ref x, _, false, false, rfl, InsC.ty (insC T (x := "Ratio") (by decide)) ((e.trans e2) _ _ hx), kit T (q := (.inr "Ratio", .inl "int", false)) (by decide), kit T (q := (.inr "Ratio", .inl "bool", false)) (by decide), fun H3 e3 => q H3 (e2.trans e3)⟩
theorem ok_is_number (T : Wk h0 K mg base) : ClC CX0 PP w K mg base 2 "is_number" ["value"] (sp_is_number K) := by
  obtain ⟨fd, F⟩ := f_is_number T
  refine ⟨_, fd, g_is_number T, F.kp, F.bindsN (fun _ _ _ _ _ _ us hl => match us, hl with | [_], _ => rfl), F.ok sc_is_number (fun vs H Q E h => ?_) (fun cdv A outer s H vs Q E hr h => ⟨_, PSs.nox (pss_one (ps_ret ((pe_or (pe_cl (ok_is_integer T) hr (by decide) (by rfl) (pa_cons (pv 0) pa_nil)) (pe_one (pe_callB (call_isi1 (K := K) rfl) (by rfl) (m_isinstance T) boot_isinstance (pa_cons (pv 0) (pa_cons (pe_glob (v := .ref (ga K "Ratio")) (by rfl) (g_Ratio T) rfl) pa_nil)))))))), ?_⟩)⟩
  · obtain ⟨x, a, rfl, _⟩ := h; rfl
  · obtain ⟨x, a, rfl, hn, hQ⟩ := h
    rcases hn with rfl | ⟨y, dy, rfl, hy⟩
    · exact s_ret (v := .bl (true || false)) (ev_orV (ev_is_integer (ev_var rfl) (.int a)) fun h => by cases h) fun H1 e1 => hQ H1 e1
    · exact s_ret (v := .bl (false || true)) (ev_orV (ev_isint_Ra T (ev_var rfl) hy) fun _ => ev_isi (ev_var rfl) (.own _) (InsC.ty (insC T (x := "Ratio") (by decide)) hy) (kit T (q := (.inr "Ratio", .inr "Ratio", true)) (by decide))) fun H1 e1 => hQ H1 e1
def sp_plain_ratio (K : PySem.W.Frag) : Sp := fun vs H Q _ => ∃ (x : V) (a : Int), vs = [x] ∧ NumA K a x H ∧ ∀ v H', Ex H H' → RaA K a 1 v H' → Q v H'
theorem ok_plain_ratio (T : Wk h0 K mg base) : ClC CX0 PP w K mg base 4 "plain_ratio" ["value"] (sp_plain_ratio K) := by
  obtain ⟨fd, F⟩ := f_plain_ratio T
  refine ⟨_, fd, g_plain_ratio T, F.kp, F.bindsN (fun _ _ _ _ _ _ us hl => match us, hl with | [_], _ => rfl), F.ok sc_plain_ratio (fun vs H Q E h => ?_) (fun cdv A outer s H vs Q E hr h => ⟨_, PSs.nox (pss_one (ps_ret (pe_ifExp (pt_val (pe_cl (ok_is_integer T) hr (by decide) (by rfl) (pa_cons (pv 0) pa_nil))) (pe_mkd (ok_Ratio_init1 T) hr (by decide) (by rfl) (pa_cons (pv 0) pa_nil)) (pv 0)))), ?_⟩)⟩
  · obtain ⟨x, a, rfl, _⟩ := h; rfl
  · obtain ⟨x, a, rfl, hn, hQ⟩ := h
    rcases hn with rfl | ⟨y, dy, rfl, hy⟩
    · exact s_retP (ep_if (et_B (ev_is_integer (ev_var rfl) (.int a))) (fun _ => ep_Ratio1 (ev_var rfl)) (fun h => by cases h)) hQ
    · exact s_retP (P := RaA K a 1) (ep_if (et_B (ev_isint_Ra T (ev_var rfl) hy)) (fun h => by cases h) (fun _ => (Ev.p (ev_var rfl)).imp fun v H1 e ev => ⟨y, dy, ev, e _ _ hy⟩)) hQ
def sp_ratio_of (K : PySem.W.Frag) : Sp := sp_plain_ratio K
theorem ok_ratio_of (T : Wk h0 K mg base) : ClC CX0 PP w K mg base 5 "ratio_of" ["number"] (sp_ratio_of K) := by
  obtain ⟨fd, F⟩ := f_ratio_of T
  refine ⟨_, fd, g_ratio_of T, F.kp, F.bindsN (fun _ _ _ _ _ _ us hl => match us, hl with | [_], _ => rfl), F.ok sc_ratio_of (fun vs H Q E h => ?_) (fun cdv A outer s H vs Q E hr h => ⟨_, PSs.nox (pss_cons (ps_if (pt_not (pt_val (pe_cl (ok_is_number T) hr (by decide) (by rfl) (pa_cons (pv 0) pa_nil)))) pss_never pss_nil) (pss_one (ps_ret (pe_cl (ok_plain_ratio T) hr (by decide) (by rfl) (pa_cons (pv 0) pa_nil))))), ?_⟩)⟩
  · obtain ⟨x, a, rfl, _⟩ := h; rfl
  · obtain ⟨x, a, rfl, hn, hQ⟩ := h
    refine q_when (b := !true) (et_not (et_B (ev_call0 (ea1 (ev_var rfl)) fun H1 e Q q E => ⟨x, a, rfl, monNum _ _ _ e hn, fun H2 e2 => q H2 e2⟩))) (fun h => by cases h) (fun _ H1 e1 => ?_)
    exact s_retCall (ea1 (ev_var rfl)) fun H2 e2 => ⟨x, a, rfl, monNum _ _ _ (e1.trans e2) hn, fun v H3 e3 hv => hQ v H3 ((e1.trans e2).trans e3) hv⟩
/-- Ratios of ints -/
def RasA (K : PySem.W.Frag) (ns : List Int) (xs : List V) (H : Hp) : Prop := xs.length = ns.length ∧ ∀ (i : Nat) y, xs[i]? = some y → RaA K (ns.getD i 0) 1 y H
theorem RasA.ex {ns : List Int} {xs : List V} {H H' : Hp} (e : Ex H H') (h : RasA K ns xs H) : RasA K ns xs H' := ⟨h.1, fun i y hy => monRa _ _ _ e (h.2 i y hy)⟩
theorem monRaL {a b : Int} : MonL (RaA K a b) := fun v H H' e ⟨x, dx, h1, h2⟩ => ⟨x, dx, h1, e _ _ h2 (fun _ z => nomatch z)⟩
/-- a list of Ratios -/
def RaL (K : PySem.W.Frag) (ns : List Int) (v : V) (H : Hp) : Prop := ∃ p xs, v = .ref p ∧ H p = some (.lst xs) ∧ RasA K ns xs H
/-- a tuple of Ratios -/
def RaT (K : PySem.W.Frag) (ns : List Int) (v : V) (H : Hp) : Prop := ∃ p xs, v = .ref p ∧ SqT K H p xs ∧ RasA K ns xs H
theorem monRaT {ns : List Int} : MonP (RaT K ns) := fun v H H' e ⟨p, xs, h1, h2, h3⟩ => ⟨p, xs, h1, ex_t e h2, h3.ex e⟩
def sp_need_numbers (K : PySem.W.Frag) : Sp := fun vs H Q _ => ∃ (b : Bool) (a : Addr) (ns : List Int), vs = [.ref a] ∧ SqB K H b a (ns.map V.int) ∧ ns.length ≤ 40000 ∧ ∀ v H', Ex H H' → RaL K ns v H' → Q v H'
theorem ok_need_numbers (T : Wk h0 K mg base) : ClC CX0 PP w K mg base 6 "need_numbers" ["numbers"] (sp_need_numbers K) := by
  obtain ⟨fd, F⟩ := f_need_numbers T
  refine ⟨_, fd, g_need_numbers T, F.kp, F.bindsN (fun _ _ _ _ _ _ us hl => match us, hl with | [_], _ => rfl), F.ok sc_need_numbers (fun vs H Q E h => ?_) (fun cdv A outer s H vs Q E hr h => ⟨_, PSs.nox (pss_cons (ps_if (pt_not (pt_val (pe_cl (ok_is_row T) hr (by decide) (by rfl) (pa_cons (pv 0) pa_nil)))) pss_never pss_nil) (pss_one (ps_ret (pe_lc (own := [("item", 1)]) (g := gName 1) rfl sc_need_numbers.nd (pi_any (pv 0)) (blkOk_by (N := N_need_numbers) (sc := defScope s_need_numbers) (by decide +kernel)) (fun _ _ _ _ _ => (pg_name (i := 1) sc_need_numbers.nd rfl (Or.inl rfl))) (fun _ _ _ _ _ => pts_nil) (fun _ _ _ _ _ => (pe_cl (ok_ratio_of T) hr (by decide) (by rfl) (pa_cons (pv 1) pa_nil))))))), ?_⟩)⟩
  · obtain ⟨b, a, ns, rfl, _⟩ := h; rfl
  · obtain ⟨b, a, ns, rfl, sq, hl, hQ⟩ := h
    have hd : Dp K H (.ref a) (seqD b (ns.map PyData.int)) := Dp.seq sq DpAll.ints
    have hrow : isRowD (seqD b (ns.map PyData.int)) = true := by cases b <;> rfl
    refine q_when (b := !true) (et_not (et_is (et_B (ev_is_row (ev_var rfl) hd)) hrow)) (fun h => by cases h) (fun _ H1 e1 => ?_)
    refine s_retP ((ep_lcR (K := K) (R := fun i => RaA K (ns.getD i 0) 1) (b := b) (fun i => monRaL) (ev_var rfl) (sq.ex e1) (by rw [List.length_map]; exact hl) (fun _ => rfl) (fun i x H2 e2 hx => ?_)).imp fun v H2 _ h => h) fun v H2 e2 hv => ?_
    · obtain ⟨y, hy, rfl⟩ := at_ints hx
      have ey : ns.getD i 0 = y := sN_at hy
      rw [ey]
      exact fun H3 e3 Q q => (ev_var (σ := _) (H := H2) rfl) H3 e3 _ fun H4 e4 => ⟨_, y, rfl, .inl rfl, fun v H5 e5 hv => q v H5 (e4.trans e5) hv⟩
    · obtain ⟨p, ys, rfl, hp, hyl, hys⟩ := hv
      exact hQ _ H2 (e1.trans e2) ⟨p, ys, rfl, hp, by rw [hyl, List.length_map], hys⟩
/-- how many stand ahead of the zeros at the end -/
def wzN (ns : List Int) : Nat → Nat
  | 0 => 0
  | m + 1 => if ns.getD m 0 = 0 then wzN ns m else m + 1
def wz (ns : List Int) : List Int := ns.take (wzN ns ns.length)
theorem wzN_le (ns : List Int) : ∀ m, wzN ns m ≤ m
  | 0 => Nat.le_refl _
  | m + 1 => by
    unfold wzN
    split
    · have := wzN_le ns m; omega
    · omega
def sp_without_zeros (K : PySem.W.Frag) : Sp := fun vs H Q _ => ∃ (p : Addr) (xs : List V) (ns : List Int), vs = [.ref p] ∧ H p = some (.lst xs) ∧ RasA K ns xs H ∧ ns.length ≤ 40000 ∧ ∀ v H', Ex H H' → RaT K (wz ns) v H' → Q v H'
theorem ok_without_zeros (T : Wk h0 K mg base) : ClC CX0 PP w K mg base 1 "without_zeros" ["ratios"] (sp_without_zeros K) := by
  obtain ⟨fd, F⟩ := f_without_zeros T
  refine ⟨_, fd, g_without_zeros T, F.kp, F.bindsN (fun _ _ _ _ _ _ us hl => match us, hl with | [_], _ => rfl), F.ok sc_without_zeros (fun vs H Q E h => ?_) (fun cdv A outer s H vs Q E hr h => ⟨_, PSs.nox (pss_cons (ps_set (i := 1) sc_without_zeros.nd rfl (Or.inl rfl) (pe_callB (call_lenK (K := K) rfl) (by rfl) (m_len T) boot_len (pa_cons (pv 0) pa_nil))) (pss_cons (ps_while PassesOwn.never (PW.pt (pw_and (pt_cmpR (op_gt) (pv 1) (pe_int) (nomark _)) (pw_and1 (pt_cmpR (op_eq) (pe_fld (pe_ix (ix_seqK (K := K) rfl) (pv 0) (pe_op op_sub (pv 1) (pe_int)) (fun _ _ => rfl)) rfl) (pe_int) (nomark _))))) (pss_one (ps_set (i := 1) sc_without_zeros.nd rfl (Or.inl rfl) (pe_op op_sub (pv 1) (pe_int))))) (pss_one (ps_ret (pe_callTy call_tuple_of (by rfl) (m_tuple T) (by decide +kernel) (pa_cons (pe_slice sl_list (pv 0) po_none (po_some (pv 1))) pa_nil)))))), ?_⟩)⟩
  · obtain ⟨p, xs, ns, rfl, _⟩ := h; rfl
  · obtain ⟨p, xs, ns, rfl, hp, hx, hl, hQ⟩ := h
    have hxl := hx.1
    refine q_asg (v := .int (ns.length : Int)) (ev_is (ev_lenA (b := false) (ev_var rfl) (SqB.l (sq_of hp))) (by rw [hxl])) fun H1 e1 => ?_
    refine q_while (fun k σ' H' => σ' = [some (.ref p), some (.int (k : Int))] ∧ Ex H H' ∧ k ≤ ns.length ∧ wzN ns k = wzN ns ns.length) ns.length ⟨rfl, e1, Nat.le_refl _, rfl⟩ ?_
    rintro k σ' H' ⟨rfl, e, hk, hw⟩
    have at_ : ∀ {j : Nat}, j < ns.length → ∃ y dy, xs[j]? = some (.ref y) ∧ H' y = some (.ins (ga K "Ratio") dy (raF (ns.getD j 0) 1)) := fun {j} hj => by
      have h1 : xs[j]? = some xs[j] := List.getElem?_eq_getElem (by omega)
      obtain ⟨y, dy, h2, h3⟩ := hx.2 j _ h1
      exact ⟨y, dy, by rw [h1, h2], e _ _ h3⟩
    refine ⟨decide (0 < k) && decide (ns.getD (k - 1) 0 = 0), et_and (et_is (et_test (ev_op (ev_var rfl) ev_c rv_I0)) (decide_eq_decide.mpr ⟨fun h => by omega, fun h => by omega⟩)) (fun hy => ?_), fun hy H2 e2 => ?_, fun hn H2 e2 => ?_⟩
    · have hk0 : 0 < k := of_decide_eq_true hy
      obtain ⟨y, dy, h1, h2⟩ := at_ (j := k - 1) (by omega)
      refine et_is (et_test (ev_op (ev_fld (ev_ixA (b := false) (i := ((k - 1 : Nat) : Int)) (ev_var rfl) (ev_is (ev_op (ev_var rfl) ev_c rv_I0) (by congr 1; omega)) (SqB.l (sq_of (e _ _ hp))) (atI_n h1)) h2 (c_Ratio T) (n_Ratio_top T) rfl) ev_c (rv_eq rfl))) ?_
      exact decide_eq_decide.mpr ⟨fun h => by injection h, fun h => by rw [h]⟩
    · obtain ⟨h1, h2⟩ := ba hy
      have hk0 : 0 < k := of_decide_eq_true h1
      have hz := of_decide_eq_true h2
      obtain ⟨m, rfl⟩ : ∃ m, k = m + 1 := ⟨k - 1, by omega⟩
      refine ⟨fun σ2 H2 => ∃ k, k < m + 1 ∧ σ2 = [some (.ref p), some (.int (k : Int))] ∧ Ex H H2 ∧ k ≤ ns.length ∧ wzN ns k = wzN ns ns.length, fun σ2 H2 h => h, ?_⟩
      refine s_asg (v := .int (m : Int)) (ev_is (ev_op (ev_var rfl) ev_c rv_I0) (by congr 1; omega)) fun H3 e3 => ⟨m, by omega, rfl, (e.trans e2).trans e3, by omega, ?_⟩
      rw [← hw]
      show wzN ns m = if ns.getD m 0 = 0 then wzN ns m else m + 1
      rw [if_pos (by rw [Nat.add_sub_cancel] at hz; exact hz)]
    · have hkw : wzN ns k = k := by
        cases k with
        | zero => rfl
        | succ m =>
          have : ¬ ns.getD m 0 = 0 := fun z => by
            rw [Nat.add_sub_cancel, decide_eq_true z, decide_eq_true (Nat.succ_pos m)] at hn
            cases hn
          show (if ns.getD m 0 = 0 then wzN ns m else m + 1) = m + 1
          rw [if_neg this]
      have E2 := e.trans e2
      have ew : wz ns = ns.take k := by unfold wz; rw [← hw, hkw]
      refine s_retP (P := RaT K (wz ns)) ((ep_tupleOf (b := false) (R := fun ys H3 => ys = xs.take k) ((EvL.p (el_slL (K := K) (lo := none) (hi := some (k : Int)) (ev_var rfl) (sq_of (E2 _ _ hp)) eo_none (eo_some (ev_var rfl)))).imp fun v H3 _ ⟨q, ev, hq⟩ => ⟨q, _, ev, sq_of hq, cut_take⟩) (fun _ _ _ _ z => z)).imp fun v H3 e3 ⟨q, ys, ev, hs, hys⟩ => ?_) fun v H3 e3 hv => hQ v H3 (E2.trans e3) hv
      subst hys
      refine ⟨q, _, ev, hs, ?_⟩
      rw [ew]
      refine ⟨by rw [List.length_take, List.length_take, hxl], fun i y hy => ?_⟩
      have hi : i < k := by
        have h := (List.getElem?_eq_some_iff.mp hy).1
        rw [List.length_take] at h
        omega
      rw [List.getElem?_take_of_lt hi] at hy
      have := monRa _ _ _ (E2.trans e3) (hx.2 i y hy)
      rw [List.getD_eq_getElem?_getD, List.getElem?_take_of_lt hi, ← List.getD_eq_getElem?_getD]
      exact this
end
end K42
set_option maxHeartbeats 0
/-! The walks: Ratio's own operators; Poly. -/
namespace K42
open PySem PySem.Spec PyProof.Rows L2 He TC Evl
section
variable {w : World} {h0 base : Heap} {K : PySem.W.Frag} {mg : Str → Option Value}
/-! Ratio * Ratio, Ratio + Ratio -/
def sp_Ratio_bin (K : PySem.W.Frag) (C : Int → Int → Prop) (f : Int → Int → Int) : Sp := fun vs H Q _ => ∃ (x y dx dy : Addr) (a c : Int), vs = [.ref x, .ref y] ∧ H x = some (.ins (ga K "Ratio") dx (raF a 1)) ∧ H y = some (.ins (ga K "Ratio") dy (raF c 1)) ∧ C a c ∧ ∀ v H', Ex H H' → RaA K (f a c) 1 v H' → Q v H'
theorem ep_Ra11 {te tx : TE} {σ : L2.St} {H : Hp} {a : Int} {E : XK} (h : Ev te σ H (.int a)) (h2 : Ev tx σ H (.int 1)) : EvP (tMake (ga K "Ratio") (sp_Ratio_init K) [] E (tCons te (tCons tx tNil))) σ H (RaA K a 1) := by
  have := ep_Ratio2 (K := K) (E := E) h h2 (by decide) (by decide)
  rw [rT_one, rB_one] at this
  exact this
theorem ok_Ratio_mul (T : Wk h0 K mg base) : EqK PP w K mg base 4 (ma K (ga K "Ratio") "__mul__") ["self", "other"] (sp_Ratio_bin K CMul (fun a c => a * c)) := by
  obtain ⟨fd, F⟩ := f_Ratio_mul T
  refine ⟨fd, F.bindsN (fun _ _ _ _ _ _ us hl => match us, hl with | [_, _], _ => rfl), F.ok sc_Ratio_mul (fun vs H Q E h => ?_) (fun cdv A outer s H vs Q E hr h => ⟨_, PSs.nox (pss_cons (ps_if (pt_val (pe_cl (ok_is_integer T) hr (by decide) (by rfl) (pa_cons (pv 1) pa_nil))) (pss_one (ps_ret (pe_mkd (ok_Ratio_init2 T) hr (by decide) (by rfl) (pa_cons (pe_op op_mul (pe_fld (pv 0) rfl) (pv 1)) (pa_cons (pe_fld (pv 0) rfl) pa_nil))))) pss_nil) (pss_cons (ps_if (pt_not (pt_val (pe_callB (call_isi1 (K := K) rfl) (by rfl) (m_isinstance T) boot_isinstance (pa_cons (pv 1) (pa_cons (pe_glob (v := .ref (ga K "Ratio")) (by rfl) (g_Ratio T) rfl) pa_nil))))) pss_never pss_nil) (pss_one (ps_ret (pe_mkd (ok_Ratio_init2 T) hr (by decide) (by rfl) (pa_cons (pe_op op_mul (pe_fld (pv 0) rfl) (pe_fld (pv 1) rfl)) (pa_cons (pe_op op_mul (pe_fld (pv 0) rfl) (pe_fld (pv 1) rfl)) pa_nil))))))), ?_⟩)⟩
  · obtain ⟨x, y, dx, dy, a, c, rfl, _⟩ := h; rfl
  · obtain ⟨x, y, dx, dy, a, c, rfl, hx, hy, hc, hQ⟩ := h
    refine q_when (et_B (ev_isint_Ra T (ev_var rfl) hy)) (fun h => by cases h) (fun _ H1 e1 => ?_)
    refine q_when (b := !true) (et_not (et_B (ev_isi (ev_var rfl) (.own _) (InsC.ty (insC T (x := "Ratio") (by decide)) (e1 _ _ hy)) (kit T (q := (.inr "Ratio", .inr "Ratio", true)) (by decide))))) (fun h => by cases h) (fun _ H2 e2 => ?_)
    have E2 := e1.trans e2
    have fx : ∀ {σ : L2.St} {te : TE} {f : Str} {v : V}, Ev te σ H2 (.ref x) → NoAttr K (ga K "Ratio") f → (raF a 1).lookup f = some v → Ev (tFld K te f) σ H2 v := fun h n hl => ev_fld h (E2 _ _ hx) (c_Ratio T) n hl
    have fy : ∀ {σ : L2.St} {te : TE} {f : Str} {v : V}, Ev te σ H2 (.ref y) → NoAttr K (ga K "Ratio") f → (raF c 1).lookup f = some v → Ev (tFld K te f) σ H2 v := fun h n hl => ev_fld h (E2 _ _ hy) (c_Ratio T) n hl
    exact s_retP (ep_Ra11 (ev_op (fx (ev_var rfl) (n_Ratio_top T) rfl) (fy (ev_var rfl) (n_Ratio_top T) rfl) (rv_I hc)) (ev_is (ev_op (fx (ev_var rfl) (n_Ratio_bottom T) rfl) (fy (ev_var rfl) (n_Ratio_bottom T) rfl) (rv_I (cmul (.inl ⟨by decide, by decide⟩)))) rfl)) fun v H3 e3 hv => hQ v H3 (E2.trans e3) hv
theorem ok_Ratio_add (T : Wk h0 K mg base) : EqK PP w K mg base 4 (ma K (ga K "Ratio") "__add__") ["self", "other"] (sp_Ratio_bin K (fun _ _ => True) (fun a c => a + c)) := by
  obtain ⟨fd, F⟩ := f_Ratio_add T
  refine ⟨fd, F.bindsN (fun _ _ _ _ _ _ us hl => match us, hl with | [_, _], _ => rfl), F.ok sc_Ratio_add (fun vs H Q E h => ?_) (fun cdv A outer s H vs Q E hr h => ⟨_, PSs.nox (pss_cons (ps_if (pt_val (pe_cl (ok_is_integer T) hr (by decide) (by rfl) (pa_cons (pv 1) pa_nil))) (pss_one (ps_ret (pe_mkd (ok_Ratio_init2 T) hr (by decide) (by rfl) (pa_cons (pe_op op_add (pe_fld (pv 0) rfl) (pe_op op_mul (pv 1) (pe_fld (pv 0) rfl))) (pa_cons (pe_fld (pv 0) rfl) pa_nil))))) pss_nil) (pss_cons (ps_if (pt_not (pt_val (pe_callB (call_isi1 (K := K) rfl) (by rfl) (m_isinstance T) boot_isinstance (pa_cons (pv 1) (pa_cons (pe_glob (v := .ref (ga K "Ratio")) (by rfl) (g_Ratio T) rfl) pa_nil))))) pss_never pss_nil) (pss_one (ps_ret (pe_mkd (ok_Ratio_init2 T) hr (by decide) (by rfl) (pa_cons (pe_op op_add (pe_op op_mul (pe_fld (pv 0) rfl) (pe_fld (pv 1) rfl)) (pe_op op_mul (pe_fld (pv 1) rfl) (pe_fld (pv 0) rfl))) (pa_cons (pe_op op_mul (pe_fld (pv 0) rfl) (pe_fld (pv 1) rfl)) pa_nil))))))), ?_⟩)⟩
  · obtain ⟨x, y, dx, dy, a, c, rfl, _⟩ := h; rfl
  · obtain ⟨x, y, dx, dy, a, c, rfl, hx, hy, hc, hQ⟩ := h
    refine q_when (et_B (ev_isint_Ra T (ev_var rfl) hy)) (fun h => by cases h) (fun _ H1 e1 => ?_)
    refine q_when (b := !true) (et_not (et_B (ev_isi (ev_var rfl) (.own _) (InsC.ty (insC T (x := "Ratio") (by decide)) (e1 _ _ hy)) (kit T (q := (.inr "Ratio", .inr "Ratio", true)) (by decide))))) (fun h => by cases h) (fun _ H2 e2 => ?_)
    have E2 := e1.trans e2
    have fx : ∀ {σ : L2.St} {te : TE} {f : Str} {v : V}, Ev te σ H2 (.ref x) → NoAttr K (ga K "Ratio") f → (raF a 1).lookup f = some v → Ev (tFld K te f) σ H2 v := fun h n hl => ev_fld h (E2 _ _ hx) (c_Ratio T) n hl
    have fy : ∀ {σ : L2.St} {te : TE} {f : Str} {v : V}, Ev te σ H2 (.ref y) → NoAttr K (ga K "Ratio") f → (raF c 1).lookup f = some v → Ev (tFld K te f) σ H2 v := fun h n hl => ev_fld h (E2 _ _ hy) (c_Ratio T) n hl
    exact s_retP (ep_Ra11 (ev_is (ev_op (ev_op (fx (ev_var rfl) (n_Ratio_top T) rfl) (fy (ev_var rfl) (n_Ratio_bottom T) rfl) (rv_I (cmul (.inr ⟨by decide, by decide⟩)))) (ev_op (fy (ev_var rfl) (n_Ratio_top T) rfl) (fx (ev_var rfl) (n_Ratio_bottom T) rfl) (rv_I (cmul (.inr ⟨by decide, by decide⟩)))) rv_I0) (by rw [Int.mul_one, Int.mul_one])) (ev_is (ev_op (fx (ev_var rfl) (n_Ratio_bottom T) rfl) (fy (ev_var rfl) (n_Ratio_bottom T) rfl) (rv_I (cmul (.inl ⟨by decide, by decide⟩)))) rfl)) fun v H3 e3 hv => hQ v H3 (E2.trans e3) hv
theorem opMul {X : Cx} (T : Wk h0 K mg base) (hP : X.prog = PP) (hw : X.w = w) (hK : X.K = K) (hm : X.mg = mg) (hB : X.base = base) {k : Nat} (hr : Room k X.A) (hk : 4 ≤ k) : OpR X (binaryOp .Mult) (rBin (ga K "Ratio") (sp_Ratio_bin K CMul (fun a c => a * c)) E0) := by
  subst hw hK hm hB
  obtain ⟨fd, b, F⟩ := (ok_Ratio_mul (w := X.w) T).ex
  rw [← hP] at F
  exact op_bin F T.sf (me_Ratio_mul T).1 rfl (me_Ratio_mul T).2 (hr.mono hk) b (fun _ _ _ _ _ _ _ h => h.elim)
theorem opAdd {X : Cx} (T : Wk h0 K mg base) (hP : X.prog = PP) (hw : X.w = w) (hK : X.K = K) (hm : X.mg = mg) (hB : X.base = base) {k : Nat} (hr : Room k X.A) (hk : 4 ≤ k) : OpR X (binaryOp .Add) (rBin (ga K "Ratio") (sp_Ratio_bin K (fun _ _ => True) (fun a c => a + c)) E0) := by
  subst hw hK hm hB
  obtain ⟨fd, b, F⟩ := (ok_Ratio_add (w := X.w) T).ex
  rw [← hP] at F
  exact op_bin F T.sf (me_Ratio_add T).1 rfl (me_Ratio_add T).2 (hr.mono hk) b (fun _ _ _ _ _ _ _ h => h.elim)
theorem ep_bin {C : Int → Int → Prop} {f : Int → Int → Int} {ta tb : TE} {σ : L2.St} {H : Hp} {a c : Int} (h1 : EvP ta σ H (RaA K a 1)) (h2 : EvP tb σ H (RaA K c 1)) (hc : C a c) : EvP (tOp (rBin (ga K "Ratio") (sp_Ratio_bin K C f) E0) ta tb) σ H (RaA K (f a c) 1) := fun H1 e Q q =>
  h1 H1 e _ fun x H2 e2 ⟨x', dx, ex, hx⟩ => h2 H2 (e.trans e2) _ fun y H3 e3 ⟨y', dy, ey, hy⟩ => ⟨x', y', dx, dy, _, _, ex, ey, e3 _ _ hx, hy, x', y', dx, dy, a, c, by rw [ex, ey], e3 _ _ hx, hy, hc, fun v H4 e4 hv => ⟨⟨_, hv.choose_spec.choose_spec.1⟩, q v H4 ((e2.trans e3).trans e4) hv⟩⟩
/-! tuples of Ratios, equal -/
def Rra (K : PySem.W.Frag) (a b : Addr) (H : Hp) : Prop := ∃ (dx dy : Addr) (p q : Int), H a = some (.ins (ga K "Ratio") dx (raF p q)) ∧ H b = some (.ins (ga K "Ratio") dy (raF p q))
def DRa (K : PySem.W.Frag) : Eqv := DIns (ga K "Ratio") (Rra K)
theorem mon_DRa : Mon (DRa K) := mon_ins fun a b H H' e ⟨dx, dy, p, q, h1, h2⟩ => ⟨dx, dy, p, q, e _ _ h1, e _ _ h2⟩
theorem eqG_DRa {X : Cx} (T : Wk h0 K mg base) (hP : X.prog = PP) (hw : X.w = w) (hK : X.K = K) (hm : X.mg = mg) (hB : X.base = base) : EqG X 1 (DRa K) := by
  subst hw hK hm hB
  obtain ⟨fd, b, F⟩ := (ok_Ratio_eq (w := X.w) T).ex
  have c := eqC T (x := "Ratio") (by decide) (me_Ratio_eq T)
  refine eqG_ins (CX := CX0) (E := E0) (hP ▸ TC.FnOk.imp F fun vs H Q E h => ?_) c.eq c.isf b (fun _ _ _ _ _ _ _ h => h.elim)
  obtain ⟨a, b, rfl, ⟨dx, dy, p, q, h1, h2⟩, hQ⟩ := h
  refine ⟨a, b, dx, dy, p, q, p, q, rfl, h1, h2, fun H' e => ?_⟩
  rw [decide_eq_true rfl, decide_eq_true rfl]
  exact hQ H' e
theorem opRas {X : Cx} (T : Wk h0 K mg base) (hP : X.prog = PP) (hw : X.w = w) (hK : X.K = K) (hm : X.mg = mg) (hB : X.base = base) {k : Nat} (hr : Room k X.A) (hk : 2 ≤ k) : OpR X (compareOp .Eq) (rEqG (DTup K (DRa K))) := by
  have e := eqG_DRa (w := w) T hP hw hK hm hB
  have o := op_eqG (rcG_tup (mon_DRa (K := K)) e) (hr.mono hk)
  rw [hK] at o
  exact o
theorem ras_prs {ns : List Int} {xs ys : List V} {H : Hp} (h1 : RasA K ns xs H) (h2 : RasA K ns ys H) : Prs (DRa K) xs ys H := ⟨h1.1.trans h2.1.symm, fun i x y hx hy => by
  obtain ⟨a, dx, e1, h3⟩ := h1.2 i x hx
  obtain ⟨b, dy, e2, h4⟩ := h2.2 i y hy
  exact ⟨a, b, dx, dy, _, _, e1, e2, h3, h4, dx, dy, _, _, h3, h4⟩⟩
theorem rat_eq {ns : List Int} {x y : V} {H : Hp} (h1 : RaT K ns x H) (h2 : RaT K ns y H) : DTup K (DRa K) x y H := by
  obtain ⟨p, xs, rfl, s1, r1⟩ := h1
  obtain ⟨q, ys, rfl, s2, r2⟩ := h2
  exact ⟨p, q, xs, ys, rfl, rfl, s1, s2, ras_prs r1 r2⟩
theorem RaT.exX {ns : List Int} {v : V} {H H' : Hp} {x C dx : Addr} {fs : List (Str × V)} (hx : H x = some (.ins C dx fs)) (hl : fs.length < 4) (e : ExX x H H') (h : RaT K ns v H) : RaT K ns v H' := by
  obtain ⟨p, xs, rfl, sq, h1, h2⟩ := h
  refine ⟨p, xs, rfl, ?_, h1, fun i y hy => ?_⟩
  · rcases sq with (h | ⟨o, h⟩) | h
    · exact .inl (.inl (e p _ (fun z => by rw [z, hx] at h; cases h) h))
    · exact .inl (.inr ⟨o, e p _ (fun z => by rw [z, hx] at h; cases h) h⟩)
    · exact .inr h
  · obtain ⟨z, dz, e1, h3⟩ := h2 i y hy
    refine ⟨z, dz, e1, e z _ (fun q => ?_) h3⟩
    rw [q, hx] at h3
    cases h3
    exact absurd hl (by show ¬ (4 < 4); omega)
/-! Poly -/
/-- a Poly of ints, none of the zeros at its end left -/
def PoA (K : PySem.W.Frag) (ns : List Int) (v : V) (H : Hp) : Prop := ∃ x dx t lv, v = .ref x ∧ H x = some (.ins (ga K "Poly") dx [("numbers", t), ("degree", .int ((ns.length : Int) - 1)), ("lead", lv)]) ∧ RaT K ns t H
theorem monPo {ns : List Int} : MonP (PoA K ns) := fun v H H' e ⟨x, dx, t, lv, h1, h2, h3⟩ => ⟨x, dx, t, lv, h1, e _ _ h2, monRaT _ _ _ e h3⟩
def sp_Poly_init (K : PySem.W.Frag) : Sp := fun vs H Q _ => ∃ (x dx : Addr) (b : Bool) (a : Addr) (ns : List Int), vs = [.ref x, .ref a] ∧ H x = some (.ins (ga K "Poly") dx []) ∧ SqB K H b a (ns.map V.int) ∧ ns.length ≤ 40000 ∧ ∀ H', ExX x H H' → PoA K (wz ns) (.ref x) H' → Q .non H'
theorem wz_len (ns : List Int) : (wz ns).length ≤ ns.length := by
  unfold wz
  rw [List.length_take]
  omega
theorem ok_Poly_init1 (T : Wk h0 K mg base) : MkD CX0 PP w K mg base 7 "Poly" (ga K "Poly") ["self", "numbers"] [] (sp_Poly_init K) := by
  obtain ⟨fd, F⟩ := f_Poly_init T
  obtain ⟨ds, hv, hb⟩ := F.binds1 (ps := ["self", "numbers"]) 2 1 (fun z => nomatch z) rfl (fun T kV doc pm an cdv ct us its hl hi => match us, hl, its, hi with | [_, _], _, [_], _ => ⟨_, rfl, rfl⟩)
  refine ⟨_, fd, ds, g_Poly T, k_Poly T, hb, hv, F.ok sc_Poly_init (fun vs H Q E h => ?_) (fun cdv A outer s H vs Q E hr h => ⟨_, PSs.nox (pss_cons (ps_fld (pv 0) (pe_cl (ok_without_zeros T) hr (by decide) (by rfl) (pa_cons (pe_cl (ok_need_numbers T) hr (by decide) (by rfl) (pa_cons (pv 1) pa_nil)) pa_nil)) rfl) (pss_cons (ps_fld (pv 0) (pe_op op_sub (pe_callB (call_lenK (K := K) rfl) (by rfl) (m_len T) boot_len (pa_cons (pe_fld (pv 0) rfl) pa_nil)) (pe_int)) rfl) (pss_one (ps_fld (pv 0) (pe_ifExp (pt_cmpR (op_gt) (pe_callB (call_lenK (K := K) rfl) (by rfl) (m_len T) boot_len (pa_cons (pe_fld (pv 0) rfl) pa_nil)) (pe_int) (nomark _)) (pe_ix (ix_seqK (K := K) rfl) (pe_fld (pv 0) rfl) (pe_un un_neg (pe_int)) (fun _ _ => rfl)) (pe_non)) rfl)))), ?_⟩)⟩
  · obtain ⟨x, dx, b, a, ns, rfl, _⟩ := h; rfl
  · obtain ⟨x, dx, b, a, ns, rfl, hx, sq, hl, hQ⟩ := h
    have hwl := wz_len ns
    refine q_fld (P := RaT K (wz ns)) (fun H1 e Q q => (show EvP (tCall (sp_need_numbers K) [] E0 (tCons (tVar 1) tNil)) _ H (RaL K ns) from ep_call (ea1 (ev_var rfl)) fun H2 e2 Q q E => ⟨b, a, ns, rfl, sq.ex e2, hl, q⟩) H1 e _ fun v H2 e2 ⟨p, xs, ev, hp, hr⟩ => ⟨p, xs, ns, by rw [ev]; rfl, hp, hr, hl, fun u H3 e3 hu => q u H3 (e2.trans e3) hu⟩) (ev_var rfl) hx (c_Poly T) (n_Poly_numbers T) (by decide) fun t H1 H2 e1 e2 ht => ?_
    have hx2 := (e1.trans e2) _ _ hx
    have ht2 := RaT.exX hx2 (by show (0 : Nat) < 4; decide) (ExX.upd (o := .ins (ga K "Poly") dx (putF "numbers" t []))) (monRaT _ _ _ e2 ht)
    obtain ⟨tp, xs, rfl, hts, htr⟩ := ht2
    have hxl := htr.1
    refine q_fld (P := fun v _ => v = .int (((wz ns).length : Int) - 1)) (Ev.p (ev_op (ev_is (ev_lenA (b := true) (ev_fld (ev_var rfl) upd_same (c_Poly T) (n_Poly_numbers T) rfl) (SqB.t hts)) (by rw [hxl])) ev_c rv_I0)) (ev_var rfl) upd_same (c_Poly T) (n_Poly_degree T) (by show (1 : Nat) < 1000; decide) fun v H3 H4 e3 e4 ev => ?_
    subst ev
    have ht4 : RaT K (wz ns) (.ref tp) _ := RaT.exX (H' := upd H4 x (.ins (ga K "Poly") dx (putF "degree" (.int (((wz ns).length : Int) - 1)) (putF "numbers" (.ref tp) [])))) ((e3.trans e4) _ _ upd_same) (by show (1 : Nat) < 4; decide) ExX.upd (monRaT _ _ _ (e3.trans e4) ⟨tp, xs, rfl, hts, htr⟩)
    have ht4' := ht4
    obtain ⟨tp', xs', ep, hts4, htr4⟩ := ht4
    cases ep
    have hxl4 := htr4.1
    refine s_fld (P := fun _ _ => True) (ep_if (b := decide (0 < xs'.length)) (et_is (et_test (ev_op (ev_lenA (b := true) (ev_fld (ev_var rfl) upd_same (c_Poly T) (n_Poly_numbers T) rfl) (SqB.t hts4)) ev_c rv_I0)) (decide_eq_decide.mpr ⟨fun h => by omega, fun h => by omega⟩)) (fun hy => ?_) (fun _ => (Ev.p ev_c).imp fun _ _ _ _ => True.intro)) (ev_var rfl) upd_same (c_Poly T) (n_Poly_lead T) (by show (2 : Nat) < 1000; decide) fun lv H5 H6 e5 e6 _ => ?_
    · have h0 : 0 < xs'.length := of_decide_eq_true hy
      exact (Ev.p (ev_ixA (b := true) (ev_fld (ev_var rfl) upd_same (c_Poly T) (n_Poly_numbers T) rfl) (ev_un ev_c ru_neg) (SqB.t hts4) (atI_m1 (List.getElem?_eq_getElem (by omega))))).imp fun _ _ _ _ => True.intro
    · have ht6 : RaT K (wz ns) (.ref tp) (upd H6 x (.ins (ga K "Poly") dx (putF "lead" lv (putF "degree" (.int (((wz ns).length : Int) - 1)) (putF "numbers" (.ref tp) []))))) := RaT.exX ((e5.trans e6) _ _ upd_same) (by show (2 : Nat) < 4; decide) ExX.upd (monRaT _ _ _ (e5.trans e6) ht4')
      exact hQ _ (((((ExX.of (e1.trans e2)).trans ExX.upd).trans ((ExX.of (e3.trans e4)).trans ExX.upd)).trans (ExX.of (e5.trans e6))).trans ExX.upd) ⟨x, dx, _, lv, rfl, upd_same, ht6⟩
theorem mk_Poly {H : Hp} {b : Bool} {a : Addr} {ns : List Int} (sq : SqB K H b a (ns.map V.int)) (hl : ns.length ≤ 40000) : SpMk (sp_Poly_init K) ([.ref a] ++ []) H (ga K "Poly") (fun x H' => PoA K (wz ns) (.ref x) H') :=
  fun H1 e x dx nx nd ne Q E q => ⟨x, dx, b, a, ns, rfl, upd_same, sq.ex (e.trans (ex_mk nx nd ne)), hl, fun H' e' h => q H' e' h⟩
/-- Poly(a list or tuple of ints) -/
theorem ep_PolyV {te : TE} {σ : L2.St} {H : Hp} {b : Bool} {a : Addr} {ns : List Int} {E : XK} (h : Ev te σ H (.ref a)) (sq : SqB K H b a (ns.map V.int)) (hl : ns.length ≤ 40000) : EvP (tMake (ga K "Poly") (sp_Poly_init K) [] E (tCons te tNil)) σ H (PoA K (wz ns)) :=
  (ep_makeD (dvs := []) (ea1 h) (mk_Poly sq hl)).imp fun v H1 _ ⟨x, ev, hx⟩ => ev ▸ hx
def sp_Poly_eq (K : PySem.W.Frag) : Sp := fun vs H Q _ => ∃ (x y : V) (ns : List Int), vs = [x, y] ∧ PoA K ns x H ∧ PoA K ns y H ∧ ∀ H', Ex H H' → Q (.bl true) H'
theorem ok_Poly_eq (T : Wk h0 K mg base) : EqK PP w K mg base 3 (ma K (ga K "Poly") "__eq__") ["self", "other"] (sp_Poly_eq K) := by
  obtain ⟨fd, F⟩ := f_Poly_eq T
  refine ⟨fd, F.bindsN (fun _ _ _ _ _ _ us hl => match us, hl with | [_, _], _ => rfl), F.ok sc_Poly_eq (fun vs H Q E h => ?_) (fun cdv A outer s H vs Q E hr h => ⟨_, PSs.nox (pss_one (ps_ret ((pe_and (pe_callB (call_isi1 (K := K) rfl) (by rfl) (m_isinstance T) boot_isinstance (pa_cons (pv 1) (pa_cons (pe_glob (v := .ref (ga K "Poly")) (by rfl) (g_Poly T) rfl) pa_nil))) (pe_one (pe_cmpR (opRas (w := w) T rfl rfl rfl rfl rfl hr (by decide)) (pe_fld (pv 0) rfl) (pe_fld (pv 1) rfl) (nomark _))))))), ?_⟩)⟩
  · obtain ⟨x, y, ns, rfl, _⟩ := h; rfl
  · obtain ⟨x, y, ns, rfl, ⟨x', dx, t, lv, rfl, hx, ht⟩, ⟨y', dy, u, lu, rfl, hy, hu⟩, hQ⟩ := h
    refine s_ret (v := .bl (true && true)) (ev_andV (ev_isi (ev_var rfl) (.own _) (InsC.ty (insC T (x := "Poly") (by decide)) hy) (kit T (q := (.inr "Poly", .inr "Poly", true)) (by decide))) fun _ => ?_) fun H1 e1 => hQ H1 e1
    exact ev_op (ev_fld (ev_var rfl) hx (c_Poly T) (n_Poly_numbers T) rfl) (ev_fld (ev_var rfl) hy (c_Poly T) (n_Poly_numbers T) rfl) fun H1 e Q q => ⟨rat_eq (monRaT _ _ _ e ht) (monRaT _ _ _ e hu), fun H2 e2 => q H2 e2⟩
end
end K42
set_option maxHeartbeats 0
/-! The walks: the value at 1; factors t ** k - 1. -/
namespace K42
open PySem PySem.Spec PyProof.Rows L2 He TC Evl
/-! plain lists -/
theorem ext0 {l m : List Int} (hl : l.length = m.length) (h : ∀ i, i < l.length → l.getD i 0 = m.getD i 0) : l = m := by
  refine List.ext_getElem hl fun i h1 h2 => ?_
  have := h i h1
  rw [List.getD_eq_getElem?_getD, List.getD_eq_getElem?_getD, List.getElem?_eq_getElem h1, List.getElem?_eq_getElem h2] at this
  exact this
theorem getD_out {l : List Int} {i : Nat} (h : l.length ≤ i) : l.getD i 0 = 0 := by
  rw [List.getD_eq_getElem?_getD, List.getElem?_eq_none h]
  rfl
theorem getD_set {l : List Int} {i j : Nat} {v : Int} (hj : j < l.length) : (l.set j v).getD i 0 = if i = j then v else l.getD i 0 := by
  rw [List.getD_eq_getElem?_getD, List.getD_eq_getElem?_getD]
  by_cases h : i = j
  · subst h
    rw [if_pos rfl, List.getElem?_set_self hj]
    rfl
  · rw [if_neg h, List.getElem?_set_ne (fun z => h z.symm)]
theorem getD_app {l m : List Int} {i : Nat} : (l ++ m).getD i 0 = if i < l.length then l.getD i 0 else m.getD (i - l.length) 0 := by
  rw [List.getD_eq_getElem?_getD]
  by_cases h : i < l.length
  · rw [if_pos h, List.getElem?_append_left h, ← List.getD_eq_getElem?_getD]
  · rw [if_neg h, List.getElem?_append_right (by omega), ← List.getD_eq_getElem?_getD]
theorem getD_take {l : List Int} {k i : Nat} : (l.take k).getD i 0 = if i < k then l.getD i 0 else 0 := by
  by_cases h : i < k
  · rw [if_pos h, List.getD_eq_getElem?_getD, List.getElem?_take_of_lt h, ← List.getD_eq_getElem?_getD]
  · rw [if_neg h, getD_out (by rw [List.length_take]; omega)]
theorem getD_drop {l : List Int} {k i : Nat} : (l.drop k).getD i 0 = l.getD (k + i) 0 := by
  rw [List.getD_eq_getElem?_getD, List.getElem?_drop, ← List.getD_eq_getElem?_getD]
def subPad : List Int → List Int → List Int
  | a :: as, b :: bs => (a - b) :: subPad as bs
  | as, [] => as
  | [], _ => []
def addPad : List Int → List Int → List Int
  | a :: as, b :: bs => (a + b) :: addPad as bs
  | as, [] => as
  | [], _ => []
theorem subPad_len : ∀ as bs : List Int, (subPad as bs).length = as.length
  | a :: as, b :: bs => by show (subPad as bs).length + 1 = _; rw [subPad_len as bs]; rfl
  | [], [] => rfl
  | _ :: _, [] => rfl
  | [], _ :: _ => rfl
theorem addPad_len : ∀ as bs : List Int, (addPad as bs).length = as.length
  | a :: as, b :: bs => by show (addPad as bs).length + 1 = _; rw [addPad_len as bs]; rfl
  | [], [] => rfl
  | _ :: _, [] => rfl
  | [], _ :: _ => rfl
theorem subPad_at : ∀ (as bs : List Int) (i : Nat), i < as.length → (subPad as bs).getD i 0 = as.getD i 0 - bs.getD i 0
  | a :: as, b :: bs, 0, _ => rfl
  | a :: as, b :: bs, i + 1, h => subPad_at as bs i (by simpa using h)
  | a :: as, [], i, _ => by show (a :: as).getD i 0 = (a :: as).getD i 0 - ([] : List Int).getD i 0; simp
  | [], _, i, h => by cases h
theorem addPad_at : ∀ (as bs : List Int) (i : Nat), i < as.length → (addPad as bs).getD i 0 = as.getD i 0 + bs.getD i 0
  | a :: as, b :: bs, 0, _ => rfl
  | a :: as, b :: bs, i + 1, h => addPad_at as bs i (by simpa using h)
  | a :: as, [], i, _ => by show (a :: as).getD i 0 = (a :: as).getD i 0 + ([] : List Int).getD i 0; simp
  | [], _, i, h => by cases h
/-- times t ** k - 1 -/
def tfL (ns : List Int) (k : Nat) : List Int := subPad (List.replicate k 0 ++ ns) ns
theorem tfL_len (ns : List Int) (k : Nat) : (tfL ns k).length = ns.length + k := by
  unfold tfL
  rw [subPad_len, List.length_append, List.length_replicate, Nat.add_comm]
/-- .. over -/
def ofG (k : Nat) : Nat → List Int → List Int
  | 0, _ => []
  | f + 1, l => match l with
    | [] => []
    | _ :: _ => addPad (l.take k) (ofG k f (l.drop k)) ++ ofG k f (l.drop k)
def ofL (k : Nat) (ns : List Int) : List Int := ofG k (ns.length - k) (ns.drop k)
theorem ofG_len (k : Nat) (hk : 1 ≤ k) : ∀ (f : Nat) (l : List Int), l.length ≤ f → (ofG k f l).length = l.length
  | 0, l, h => by
    have : l.length = 0 := by omega
    rw [this]
    rfl
  | f + 1, [], _ => rfl
  | f + 1, a :: l, h => by
    show (addPad ((a :: l).take k) (ofG k f ((a :: l).drop k)) ++ ofG k f ((a :: l).drop k)).length = _
    have h' : ((a :: l).drop k).length ≤ f := by rw [List.length_drop]; omega
    rw [List.length_append, addPad_len, ofG_len k hk f _ h', List.length_take, List.length_drop]
    omega
theorem ofG_at (k : Nat) (hk : 1 ≤ k) : ∀ (f : Nat) (l : List Int), l.length ≤ f → ∀ j, (ofG k f l).getD j 0 = l.getD j 0 + (ofG k f l).getD (j + k) 0
  | 0, l, h, j => by
    have hl : l = [] := List.eq_nil_of_length_eq_zero (by omega)
    subst hl
    rfl
  | f + 1, [], _, j => rfl
  | f + 1, a :: l, h, j => by
    have h' : ((a :: l).drop k).length ≤ f := by rw [List.length_drop]; omega
    have ih := ofG_at k hk f _ h'
    have rl := ofG_len k hk f _ h'
    show (addPad ((a :: l).take k) (ofG k f ((a :: l).drop k)) ++ ofG k f ((a :: l).drop k)).getD j 0 = (a :: l).getD j 0 + (addPad ((a :: l).take k) (ofG k f ((a :: l).drop k)) ++ ofG k f ((a :: l).drop k)).getD (j + k) 0
    generalize (a :: l) = L at *
    generalize ofG k f (L.drop k) = r at *
    rw [List.length_drop] at rl
    have pl : (addPad (L.take k) r).length = min k L.length := by rw [addPad_len, List.length_take]
    rw [getD_app, getD_app, pl]
    by_cases h1 : L.length < k
    · have r0 : ∀ i, r.getD i 0 = 0 := fun i => getD_out (by omega)
      rw [show min k L.length = L.length by omega, if_neg (show ¬ (j + k < L.length) by omega), r0 (j - L.length), r0 (j + k - L.length), Int.add_zero]
      by_cases h2 : j < L.length
      · rw [if_pos h2, addPad_at _ _ _ (by rw [List.length_take]; omega), r0, getD_take, if_pos (by omega), Int.add_zero]
      · rw [if_neg h2, getD_out (by omega)]
    · rw [show min k L.length = k by omega, if_neg (show ¬ (j + k < k) by omega), Nat.add_sub_cancel]
      by_cases h2 : j < k
      · rw [if_pos h2, addPad_at _ _ _ (by rw [List.length_take]; omega), getD_take, if_pos h2]
      · rw [if_neg h2, ih (j - k), getD_drop, Nat.sub_add_cancel (by omega), Nat.add_sub_cancel' (by omega)]
theorem ofL_len {k : Nat} {ns : List Int} (hk : 1 ≤ k) : (ofL k ns).length = ns.length - k := by
  unfold ofL
  rw [ofG_len k hk _ _ (by rw [List.length_drop]; exact Nat.le_refl _), List.length_drop]
theorem ofL_at {k : Nat} {ns : List Int} (hk : 1 ≤ k) (j : Nat) : (ofL k ns).getD j 0 = ns.getD (j + k) 0 + (ofL k ns).getD (j + k) 0 := by
  unfold ofL
  rw [ofG_at k hk _ _ (by rw [List.length_drop]; exact Nat.le_refl _) j, getD_drop, Nat.add_comm k j]
section
variable {w : World} {h0 base : Heap} {K : PySem.W.Frag} {mg : Str → Option Value}
/-! the value at 1 -/
def sp_poly_value_at (K : PySem.W.Frag) : Sp := fun vs H Q _ => ∃ (x r : V) (ns : List Int), vs = [x, r] ∧ PoA K ns x H ∧ ns.length ≤ 40000 ∧ RaA K 1 1 r H ∧ ∀ v H', Ex H H' → RaA K ns.reverse.sum 1 v H' → Q v H'
theorem sum_snoc (l : List Int) (i : Nat) (x : Int) (h : l[i]? = some x) : (l.take (i + 1)).sum = (l.take i).sum + x := by
  obtain ⟨hl, e⟩ := List.getElem?_eq_some_iff.mp h
  rw [List.take_succ, h]
  simp
theorem ok_poly_value_at (T : Wk h0 K mg base) : ClC CX0 PP w K mg base 5 "poly_value_at" ["p", "ratio"] (sp_poly_value_at K) := by
  obtain ⟨fd, F⟩ := f_poly_value_at T
  refine ⟨_, fd, g_poly_value_at T, F.kp, F.bindsN (fun _ _ _ _ _ _ us hl => match us, hl with | [_, _], _ => rfl), F.ok sc_poly_value_at (fun vs H Q E h => ?_) (fun cdv A outer s H vs Q E hr h => ⟨_, PSs.nox (pss_cons (ps_set (i := 2) sc_poly_value_at.nd rfl (Or.inl rfl) (pe_mkd (ok_Ratio_init1 T) hr (by decide) (by rfl) (pa_cons (pe_int) pa_nil))) (pss_cons (ps_for PassesOwn.never rfl (pi_any (pe_revA (pe_fld (pv 0) rfl))) (pg_name (i := 3) sc_poly_value_at.nd rfl (Or.inl rfl)) (pss_one (ps_set (i := 2) sc_poly_value_at.nd rfl (Or.inl rfl) (pe_op (opAdd (w := w) T rfl rfl rfl rfl rfl hr (by decide)) (pe_op (opMul (w := w) T rfl rfl rfl rfl rfl hr (by decide)) (pv 2) (pv 1)) (pv 3))))) (pss_one (ps_ret (pv 2))))), ?_⟩)⟩
  · obtain ⟨x, r, ns, rfl, _⟩ := h; rfl
  · obtain ⟨x, r, ns, rfl, ⟨x', dx, t, lv, rfl, hx, tp, xs, rfl, hts, htr⟩, hl, ⟨r', dr, rfl, hr1⟩, hQ⟩ := h
    have hxl := htr.1
    refine q_asgP (P := RaA K 0 1) (ep_Ratio1 ev_c) fun z H1 e1 hz => ?_
    refine q_forRev (K := K) (b := true) (xs := xs) (ev_fld (ev_var rfl) (e1 _ _ hx) (c_Poly T) (n_Poly_numbers T) rfl) (SqB.t (ex_t e1 hts)) (fun p i σ' H' => ∃ (tot : V) (x3 : Option V), σ' = [some (.ref x'), some (.ref r'), some tot, x3] ∧ Ex H1 H' ∧ SqB K H' true p xs.reverse ∧ RaA K (ns.reverse.take i).sum 1 tot H')
      (fun p H2 hp e2 sq => ⟨z, none, rfl, e2, sq, monRa _ _ _ e2 hz⟩) (fun p i σ' H' hi ⟨tot, x3, _, _, sq, _⟩ => sq) (fun p i x σ' H' hx ⟨tot, x3, es, e, sq, ht⟩ => ?_) (fun p σ' H' ⟨tot, x3, es, e, sq, ht⟩ => ?_)
    · subst es
      have hi : i < xs.length := by have := (List.getElem?_eq_some_iff.mp hx).1; rw [List.length_reverse] at this; exact this
      rw [List.getElem?_reverse hi] at hx
      have ra := monRa _ _ _ (e1.trans e) (htr.2 _ x hx)
      have en : ns.reverse[i]? = some (ns.getD (xs.length - 1 - i) 0) := by
        rw [List.getElem?_reverse (by omega), hxl, List.getD_eq_getElem?_getD, List.getElem?_eq_getElem (by omega)]
        rfl
      refine s_asgP (P := RaA K (ns.reverse.take (i + 1)).sum 1) ?_ fun v H2 e2 hv => ⟨v, _, rfl, e.trans e2, sq.ex e2, hv⟩
      rw [sum_snoc _ _ _ en]
      have h1 := ep_bin (K := K) (C := CMul) (f := fun a c => a * c) (ta := tVar 2) (tb := tVar 1) (σ := [some (.ref x'), some (.ref r'), some tot, some x]) (H := H') ((Ev.p (ev_var rfl)).imp fun v H2 e2 ev => ev ▸ monRa _ _ _ e2 ht) ((Ev.p (ev_var rfl)).imp fun v H2 e2 ev => ev ▸ monRa _ _ _ ((e1.trans e).trans e2) ⟨r', dr, rfl, hr1⟩) (cmul (.inr ⟨by decide, by decide⟩))
      have h1' : EvP (tOp (rBin (ga K "Ratio") (sp_Ratio_bin K CMul (fun a c => a * c)) E0) (tVar 2) (tVar 1)) [some (.ref x'), some (.ref r'), some tot, some x] H' (RaA K (ns.reverse.take i).sum 1) := h1.imp fun v H2 _ h => by
        have h : RaA K ((ns.reverse.take i).sum * 1) 1 v H2 := h
        rw [Int.mul_one] at h
        exact h
      exact ep_bin (K := K) (C := fun _ _ => True) (f := fun a c => a + c) h1' ((Ev.p (ev_var rfl)).imp fun v H2 e2 ev => ev ▸ monRa _ _ _ e2 ra) True.intro
    · subst es
      refine s_ret (ev_var rfl) fun H2 e2 => hQ tot H2 ((e1.trans e).trans e2) ?_
      have : ns.reverse.take xs.length = ns.reverse := by rw [hxl, ← List.length_reverse, List.take_length]
      rw [this] at ht
      exact monRa _ _ _ e2 ht
def sp_Poly_at (K : PySem.W.Frag) : Sp := fun vs H Q _ => ∃ (x : V) (ns : List Int), vs = [x, .int 1] ∧ PoA K ns x H ∧ ns.length ≤ 40000 ∧ ∀ v H', Ex H H' → RaA K ns.reverse.sum 1 v H' → Q v H'
theorem ok_Poly_at (T : Wk h0 K mg base) : EqK PP w K mg base 6 (ma K (ga K "Poly") "at") ["self", "number"] (sp_Poly_at K) := by
  obtain ⟨fd, F⟩ := f_Poly_at T
  refine ⟨fd, F.bindsN (fun _ _ _ _ _ _ us hl => match us, hl with | [_, _], _ => rfl), F.ok sc_Poly_at (fun vs H Q E h => ?_) (fun cdv A outer s H vs Q E hr h => ⟨_, PSs.nox (pss_one (ps_ret (pe_cl (ok_poly_value_at T) hr (by decide) (by rfl) (pa_cons (pv 0) (pa_cons (pe_cl (ok_ratio_of T) hr (by decide) (by rfl) (pa_cons (pv 1) pa_nil)) pa_nil))))), ?_⟩)⟩
  · obtain ⟨x, ns, rfl, _⟩ := h; rfl
  · obtain ⟨x, ns, rfl, hp, hl, hQ⟩ := h
    refine ⟨x, rfl, ⟨.int 1, rfl, ⟨.int 1, 1, rfl, .inl rfl, fun r H1 e1 hr1 => ⟨x, r, ns, rfl, monPo _ _ _ e1 hp, hl, hr1, fun v H2 e2 hv => hQ v H2 (e1.trans e2) hv⟩⟩⟩⟩
/-! times_factor -/
def sp_times_factor (K : PySem.W.Frag) : Sp := fun vs H Q _ => ∃ (b : Bool) (a : Addr) (ns : List Int) (k : Nat), vs = [.ref a, .int (k : Int)] ∧ SqB K H b a (ns.map V.int) ∧ ns.length + k ≤ 40000 ∧ RetL ((tfL ns k).map V.int) H Q
theorem int_at {l : List Int} {j : Nat} (h : j < l.length) : (l.map V.int)[j]? = some (.int (l.getD j 0)) := by
  rw [List.getElem?_map, List.getD_eq_getElem?_getD, List.getElem?_eq_getElem h]
  rfl
theorem ok_times_factor (T : Wk h0 K mg base) : ClC CX0 PP w K mg base 1 "times_factor" ["numbers", "k"] (sp_times_factor K) := by
  obtain ⟨fd, F⟩ := f_times_factor T
  refine ⟨_, fd, g_times_factor T, F.kp, F.bindsN (fun _ _ _ _ _ _ us hl => match us, hl with | [_, _], _ => rfl), F.ok sc_times_factor (fun vs H Q E h => ?_) (fun cdv A outer s H vs Q E hr h => ⟨_, PSs.nox (pss_cons (ps_set (i := 2) sc_times_factor.nd rfl (Or.inl rfl) (pe_op op_cat (pe_op op_rep (pe_lst (pa_cons (pe_int) pa_nil)) (pv 1)) (pe_callTy call_list_of (by rfl) (m_list T) (by decide +kernel) (pa_cons (pv 0) pa_nil)))) (pss_cons (ps_for PassesOwn.never rfl (pi_enumA (by rfl) (m_enumerate T) (pa_cons (pv 0) pa_nil)) (pg_tup rfl (pgs_cons (pg_name (i := 3) sc_times_factor.nd rfl (Or.inl rfl)) (pgs_cons (pg_name (i := 4) sc_times_factor.nd rfl (Or.inl rfl)) pgs_nil))) (pss_one (ps_asg (pe_op op_sub (pe_ix (ix_seqK (K := K) rfl) (pv 2) (pv 3) (fun _ _ => rfl)) (pv 4)) (pg_sub (pv 2) (pv 3) set_list)))) (pss_one (ps_ret (pv 2))))), ?_⟩)⟩
  · obtain ⟨b, a, ns, k, rfl, _⟩ := h; rfl
  · obtain ⟨b, a, ns, k, rfl, sq, hl, hQ⟩ := h
    have hB : (List.replicate k (0 : Int) ++ ns).length = ns.length + k := by rw [List.length_append, List.length_replicate, Nat.add_comm]
    refine q_asgL (xs := (List.replicate k (0 : Int) ++ ns).map V.int) ?_ fun l H1 hl1 e1 h1 => ?_
    · rw [List.map_append, List.map_replicate]
      exact el_catNN (el_rep1 (k := k) (x := .int 0) ev_c (ev_var rfl) (by omega)) (el_listOf (b := b) (ev_var rfl) sq) (by rw [List.length_replicate, List.length_map]; omega)
    refine q_forEn (K := K) (b := b) (a := a) (xs := ns.map V.int) (ea1 (ev_var rfl)) (sq.ex e1) (fun j σ' H' => ∃ (x3 x4 : Option V) (row : List Int), σ' = [some (.ref a), some (.int (k : Int)), some (.ref l), x3, x4] ∧ Ex H H' ∧ H' l = some (.lst (row.map V.int)) ∧ row.length = ns.length + k ∧ ∀ i, i < ns.length + k → row.getD i 0 = (List.replicate k (0 : Int) ++ ns).getD i 0 - (if i < j then ns.getD i 0 else 0))
      (fun H2 e2 => ⟨none, none, _, rfl, e1.trans e2, e2 _ _ h1, hB, fun i _ => by rw [if_neg (Nat.not_lt_zero i), Int.sub_zero]⟩) (fun j σ' H' _ ⟨x3, x4, row, _, e, _⟩ => sq.ex e) (fun j x σ' H' H'' hx ⟨x3, x4, row, es, e, hrow, hrl, hra⟩ e2 => ?_) (fun σ' H' ⟨x3, x4, row, es, e, hrow, hrl, hra⟩ => ?_)
    · subst es
      obtain ⟨n, hn, rfl⟩ := at_ints hx
      have hj : j < ns.length := (List.getElem?_eq_some_iff.mp hn).1
      have en : ns.getD j 0 = n := sN_at hn
      refine s_setL (j := j) (v := .int (row.getD j 0 - n)) (e2 _ _ hrow) (ev_op (ev_ixA (b := false) (ev_var rfl) (ev_var rfl) (SqB.l (sq_of (e2 _ _ hrow))) (atI_n (int_at (by omega)))) (ev_var rfl) rv_I0) (ev_var rfl) (ev_var rfl) (by rw [List.length_map]; omega) fun H3 e3 => ?_
      refine ⟨_, _, row.set j (row.getD j 0 - n), rfl, Ex.mut ((e.trans e2).trans e3) hl1, ?_, by rw [List.length_set]; exact hrl, fun i hi => ?_⟩
      · rw [List.map_set]
        exact upd_same
      · rw [getD_set (by omega)]
        by_cases h : i = j
        · subst h
          rw [if_pos rfl, if_pos (Nat.lt_succ_self i), hra i hi, if_neg (Nat.lt_irrefl i), Int.sub_zero, en]
        · rw [if_neg h, hra i hi]
          by_cases h2 : i < j
          · rw [if_pos h2, if_pos (by omega)]
          · rw [if_neg h2, if_neg (by omega)]
    · subst es
      refine s_ret (ev_var rfl) fun H2 e2 => hQ l H2 hl1 (e.trans e2) ?_
      have : row = tfL ns k := ext0 (by rw [hrl, tfL_len]) fun i hi => by
        rw [hra i (by omega)]
        unfold tfL
        rw [subPad_at _ _ _ (by omega), List.length_map]
        by_cases h : i < ns.length
        · rw [if_pos h]
        · rw [if_neg h, getD_out (l := ns) (by omega)]
      rw [← this]
      exact e2 _ _ hrow
/-! over_factor -/
theorem q_forDn1 {σ : L2.St} {H : Hp} {ta : TA} {tu tz : TS} {D : Ends} {j m : Nat} (h : EvA ta σ H [.int ((m : Int) - 1), .int (-1), .int (-1)]) (hm : m ≤ 100000) (Pv : Nat → L2.St → Hp → Prop) (h0 : ∀ H1, Ex H H1 → Pv 0 σ H1)
    (hs : ∀ (i : Nat) σ' H', i < m → Pv i σ' H' → tu { D with nx := Pv (i + 1), ct := Pv (i + 1), bk := tz D } (σ'.set j (some (.int ((m - 1 - i : Nat) : Int)))) H') (hd : ∀ σ' H', Pv m σ' H' → tz D σ' H') : tSeq (tFor (iRng3 ta) (gName j) tu) tz D σ H :=
  h H (Ex.refl H) _ fun H1 e => ⟨(m : Int) - 1, -1, -1, m, rfl, by
    have := RgC.neg (i := (m : Int) - 1) (j := -1) (by omega) (by omega) (by omega) (by omega)
    rw [show (m : Int) - 1 - -1 = (m : Int) by omega, Int.toNat_natCast] at this
    exact this, for_rangeC (D := { D with nx := tz D }) Pv (h0 H1 e) (fun i σ' H' hi p => by
    have e0 : (m : Int) - 1 + (i : Nat) * (-1) = ((m - 1 - i : Nat) : Int) := by omega
    show tu { D with nx := Pv (i + 1), ct := Pv (i + 1), bk := tz D } (σ'.set j (some (.int ((m : Int) - 1 + (i : Nat) * (-1))))) H'
    rw [e0]
    exact hs i σ' H' hi p) hd⟩
theorem q_parLn {σ : L2.St} {H : Hp} {te tx : TE} {tz : TS} {D : Ends} {i j : Nat} {xs ys : List V} (h : EvL te σ H xs) (h2 : EvL tx σ H ys) (k : ∀ p q H1, H p = none → H q = none → p ≠ q → Ex H H1 → H1 p = some (.lst xs) → H1 q = some (.lst ys) → tz D ((σ.set i (some (.ref p))).set j (some (.ref q))) H1) : tSeq (tPar i j (tCons te (tCons tx tNil))) tz D σ H :=
  h H (Ex.refl H) _ fun p H1 hp e h1 => h2 H1 e _ fun q H2 hq e2 h2 => ⟨_, _, rfl, k p q H2 hp (fresh_back e hq) (fun z => by rw [← z, h1] at hq; cases hq) (e.trans e2) (e2 p _ h1) h2⟩
def sp_over_factor (K : PySem.W.Frag) : Sp := fun vs H Q _ => ∃ (b : Bool) (a : Addr) (ns : List Int) (k : Nat), vs = [.ref a, .int (k : Int)] ∧ SqB K H b a (ns.map V.int) ∧ ns.length ≤ 40000 ∧ 1 ≤ k ∧ k ≤ ns.length ∧ RetL ((ofL k ns).map V.int) H Q
theorem ok_over_factor (T : Wk h0 K mg base) : ClC CX0 PP w K mg base 1 "over_factor" ["numbers", "k"] (sp_over_factor K) := by
  obtain ⟨fd, F⟩ := f_over_factor T
  refine ⟨_, fd, g_over_factor T, F.kp, F.bindsN (fun _ _ _ _ _ _ us hl => match us, hl with | [_, _], _ => rfl), F.ok sc_over_factor (fun vs H Q E h => ?_) (fun cdv A outer s H vs Q E hr h => ⟨_, PSs.nox (pss_cons (ps_par (i := 2) (j := 3) (by rfl) sc_over_factor.nd rfl rfl (by decide) rfl rfl (pa_cons (pe_callTy call_list_of (by rfl) (m_list T) (by decide +kernel) (pa_cons (pv 0) pa_nil)) (pa_cons (pe_op op_rep (pe_lst (pa_cons (pe_int) pa_nil)) (pe_op op_sub (pe_callB (call_lenK (K := K) rfl) (by rfl) (m_len T) boot_len (pa_cons (pv 0) pa_nil)) (pv 1))) pa_nil)) (by rfl)) (pss_cons (ps_for PassesOwn.never rfl (pi_range3 (by rfl) (m_range T) (pa_cons (pe_op op_sub (pe_callB (call_lenK (K := K) rfl) (by rfl) (m_len T) boot_len (pa_cons (pv 3) pa_nil)) (pe_int)) (pa_cons (pe_un un_neg (pe_int)) (pa_cons (pe_un un_neg (pe_int)) pa_nil)))) (pg_name (i := 4) sc_over_factor.nd rfl (Or.inl rfl)) (pss_cons (ps_asg (pe_ix (ix_seqK (K := K) rfl) (pv 2) (pe_op op_add (pv 4) (pv 1)) (fun _ _ => rfl)) (pg_sub (pv 3) (pv 4) set_list)) (pss_one (ps_asg (pe_op op_add (pe_ix (ix_seqK (K := K) rfl) (pv 2) (pv 4) (fun _ _ => rfl)) (pe_ix (ix_seqK (K := K) rfl) (pv 3) (pv 4) (fun _ _ => rfl))) (pg_sub (pv 2) (pv 4) set_list))))) (pss_one (ps_ret (pv 3))))), ?_⟩)⟩
  · obtain ⟨b, a, ns, k, rfl, _⟩ := h; rfl
  · obtain ⟨b, a, ns, k, rfl, sq, hl, hk1, hk2, hQ⟩ := h
    obtain ⟨m, hm⟩ : ∃ m, m = ns.length - k := ⟨_, rfl⟩
    have ol := ofL_len (ns := ns) hk1
    have oat := ofL_at (ns := ns) hk1
    generalize ofL k ns = O at *
    refine q_parLn (xs := ns.map V.int) (ys := (List.replicate m (0 : Int)).map V.int) (el_listOf (b := b) (ev_var rfl) sq) ?_ fun l f H1 hl0 hf0 hlf e1 hl1 hf1 => ?_
    · rw [List.map_replicate]
      exact el_rep1 (k := m) (x := .int 0) ev_c (ev_is (ev_op (x := .int (ns.length : Int)) (y := .int (k : Int)) (ev_is (ev_lenA (b := b) (ev_var rfl) sq) (by rw [List.length_map])) (ev_var rfl) rv_I0) (by congr 1; omega)) (by omega)
    refine q_forDn1 (m := m) (ea_cons (ev_op (ev_is (ev_lenA (b := false) (ev_var rfl) (SqB.l (sq_of hf1))) (by rw [List.length_map, List.length_replicate])) ev_c rv_I0) (ea2 (ev_un ev_c ru_neg) (ev_un ev_c ru_neg))) (by omega) (fun j σ' H' => ∃ (x4 : Option V) (r fo : List Int), σ' = [some (.ref a), some (.int (k : Int)), some (.ref l), some (.ref f), x4] ∧ Ex H H' ∧ H' l = some (.lst (r.map V.int)) ∧ H' f = some (.lst (fo.map V.int)) ∧ r.length = ns.length ∧ fo.length = m ∧ (∀ i, r.getD i 0 = ns.getD i 0 + (if m - j ≤ i then O.getD i 0 else 0)) ∧ ∀ i, i < m → fo.getD i 0 = if m - j ≤ i then O.getD i 0 else 0)
      (fun H2 e2 => ⟨none, ns, List.replicate m 0, rfl, e1.trans e2, e2 _ _ hl1, e2 _ _ hf1, rfl, List.length_replicate, fun i => ?_, fun i hi => ?_⟩) (fun j σ' H' hj ⟨x4, r, fo, es, e, hr1, hfo, hrl, hfl, hra, hfa⟩ => ?_) (fun σ' H' ⟨x4, r, fo, es, e, hr1, hfo, hrl, hfl, hra, hfa⟩ => ?_)
    · by_cases h : m - 0 ≤ i
      · rw [if_pos h, getD_out (l := O) (by omega), Int.add_zero]
      · rw [if_neg h, Int.add_zero]
    · rw [if_neg (by omega), List.getD_eq_getElem?_getD, List.getElem?_replicate, if_pos hi]
      rfl
    · subst es
      obtain ⟨t, ht⟩ : ∃ t, t = m - 1 - j := ⟨_, rfl⟩
      rw [← ht]
      have hv : r.getD (t + k) 0 = O.getD t 0 := by rw [hra, if_pos (by omega), ← oat]
      refine q_setL (j := t) (v := .int (O.getD t 0)) hfo (ev_is (ev_ixA (b := false) (i := ((t + k : Nat) : Int)) (ev_var rfl) (ev_is (ev_op (ev_var rfl) (ev_var rfl) rv_I0) (by congr 1)) (SqB.l (sq_of hr1)) (atI_n (int_at (by omega)))) (by rw [hv])) (ev_var rfl) (ev_var rfl) (by rw [List.length_map]; omega) fun H2 e2 => ?_
      have hr2 : (upd H2 f (.lst ((fo.map V.int).set t (.int (O.getD t 0))))) l = some (.lst (r.map V.int)) := by rw [upd_ne hlf]; exact e2 _ _ hr1
      have hf2 : (upd H2 f (.lst ((fo.map V.int).set t (.int (O.getD t 0))))) f = some (.lst ((fo.set t (O.getD t 0)).map V.int)) := by rw [List.map_set]; exact upd_same
      refine s_setL (j := t) (v := .int (r.getD t 0 + O.getD t 0)) hr2 (ev_op (ev_ixA (b := false) (ev_var rfl) (ev_var rfl) (SqB.l (sq_of hr2)) (atI_n (int_at (by omega)))) (ev_is (ev_ixA (b := false) (ev_var rfl) (ev_var rfl) (SqB.l (sq_of hf2)) (atI_n (int_at (by rw [List.length_set]; omega)))) (by rw [getD_set (by omega), if_pos rfl])) rv_I0) (ev_var rfl) (ev_var rfl) (by rw [List.length_map]; omega) fun H3 e3 => ?_
      refine ⟨_, r.set t (r.getD t 0 + O.getD t 0), fo.set t (O.getD t 0), rfl, Ex.mut ((Ex.mut (e.trans e2) hf0).trans e3) hl0, by rw [List.map_set]; exact upd_same, by rw [upd_ne hlf.symm]; exact e3 _ _ hf2, by rw [List.length_set]; exact hrl, by rw [List.length_set]; exact hfl, fun i => ?_, fun i hi => ?_⟩
      · rw [getD_set (by omega)]
        by_cases h : i = t
        · subst h
          rw [if_pos rfl, if_pos (by omega), hra, if_neg (by omega), Int.add_zero]
        · rw [if_neg h, hra]
          by_cases h2 : m - j ≤ i
          · rw [if_pos h2, if_pos (by omega)]
          · rw [if_neg h2, if_neg (by omega)]
      · rw [getD_set (by omega)]
        by_cases h : i = t
        · subst h
          rw [if_pos rfl, if_pos (by omega)]
        · rw [if_neg h, hfa i hi]
          by_cases h2 : m - j ≤ i
          · rw [if_pos h2, if_pos (by omega)]
          · rw [if_neg h2, if_neg (by omega)]
    · subst es
      refine s_ret (ev_var rfl) fun H2 e2 => hQ f H2 hf0 (e.trans e2) ?_
      have : fo = O := ext0 (by omega) fun i hi => by rw [hfa i (by omega), if_pos (by omega)]
      rw [← this]
      exact e2 _ _ hfo
end
end K42
set_option maxHeartbeats 0
/-! The walks: products of factors. -/
namespace K42
open PySem PySem.Spec PyProof.Rows L2 He TC Evl
def itT (k : Nat) : Nat → List Int → List Int
  | 0, ns => ns
  | m + 1, ns => tfL (itT k m ns) k
def itO (k : Nat) : Nat → List Int → List Int
  | 0, ns => ns
  | m + 1, ns => ofL k (itO k m ns)
theorem itT_len (k : Nat) (ns : List Int) : ∀ m, (itT k m ns).length = ns.length + k * m
  | 0 => rfl
  | m + 1 => by
    show (tfL (itT k m ns) k).length = _
    rw [tfL_len, itT_len k ns m, Nat.mul_succ]
    omega
theorem itO_len {k : Nat} (hk : 1 ≤ k) (ns : List Int) : ∀ m, (itO k m ns).length = ns.length - k * m
  | 0 => rfl
  | m + 1 => by
    show (ofL k (itO k m ns)).length = _
    rw [ofL_len hk, itO_len hk ns m, Nat.mul_succ]
    omega
def upL : PL → List Int → List Int
  | [], ns => ns
  | p :: ps, ns => upL ps (itT p.1.toNat p.2.toNat ns)
def dnL : PL → List Int → List Int
  | [], ns => ns
  | p :: ps, ns => dnL ps (itO p.1.toNat (-p.2).toNat ns)
def prodL (ps : PL) : List Int := dnL ps (upL ps [1])
def upB : PL → List Int → Bool
  | [], _ => true
  | p :: ps, ns => decide (0 ≤ p.1 ∧ p.2 ≤ 100 ∧ -100 ≤ p.2 ∧ ns.length + p.1.toNat * p.2.toNat ≤ 40000) && upB ps (itT p.1.toNat p.2.toNat ns)
def dnB : PL → List Int → Bool
  | [], _ => true
  | p :: ps, ns => decide (1 ≤ p.1 ∧ p.2 ≤ 100 ∧ -100 ≤ p.2 ∧ p.1.toNat * (-p.2).toNat ≤ ns.length) && dnB ps (itO p.1.toNat (-p.2).toNat ns)
def prodB (ps : PL) : Bool := decide (ps.length ≤ 1000) && (upB ps [1] && (decide ((upL ps [1]).length ≤ 40000) && dnB ps (upL ps [1])))
theorem dnL_len : ∀ (ps : PL) (ns : List Int), dnB ps ns = true → (dnL ps ns).length ≤ ns.length
  | [], ns, _ => Nat.le_refl _
  | p :: ps, ns, h => by
    obtain ⟨h1, h2⟩ := ba h
    have h3 := of_decide_eq_true h1
    have := dnL_len ps _ h2
    rw [itO_len (by omega)] at this
    show (dnL ps (itO p.1.toNat (-p.2).toNat ns)).length ≤ _
    omega
section
variable {w : World} {h0 base : Heap} {K : PySem.W.Frag} {mg : Str → Option Value}
theorem s_forR1N {D : Ends} {σ : L2.St} {H : Hp} {tu : TS} {ta : TA} {j : Nat} {n : Int} (h : EvA ta σ H [.int n]) (hn : -100000 ≤ n ∧ n ≤ 100000) (Pv : Nat → L2.St → Hp → Prop) (h0 : ∀ H1, Ex H H1 → Pv 0 σ H1)
    (hs : ∀ (i : Nat) σ' H', i < n.toNat → Pv i σ' H' → tu { D with nx := Pv (i + 1), ct := Pv (i + 1), bk := D.nx } (σ'.set j (some (.int (i : Int)))) H') (hd : ∀ σ' H', Pv n.toNat σ' H' → D.nx σ' H') : tFor (iRng1 ta) (gName j) tu D σ H :=
  h H (Ex.refl H) _ fun H1 e => ⟨n, rfl, by omega, by omega, for_range (lo := 0) (n := n.toNat) Pv (h0 H1 e) (fun i σ' H' hi p => by
    have e0 : (0 : Int) + (i : Int) = (i : Int) := Int.zero_add _
    show tu { D with nx := Pv (i + 1), ct := Pv (i + 1), bk := D.nx } (σ'.set j (some (.int ((0 : Int) + (i : Int))))) H'
    rw [e0]
    exact hs i σ' H' hi p) hd⟩
theorem el_tf {σ : L2.St} {H : Hp} {ta tk : TE} {b : Bool} {a : Addr} {ns : List Int} {k : Nat} (h : Ev ta σ H (.ref a)) (h2 : Ev tk σ H (.int (k : Int))) (sq : SqB K H b a (ns.map V.int)) (hl : ns.length + k ≤ 40000) : EvL (tCall (sp_times_factor K) [] E0 (tCons ta (tCons tk tNil))) σ H ((tfL ns k).map V.int) := fun H1 e Q q =>
  h H1 e _ fun H2 e2 => h2 H2 (e.trans e2) _ fun H3 e3 => ⟨b, a, ns, k, rfl, sq.ex ((e.trans e2).trans e3), hl, fun p H4 hp e4 h4 => q p H4 (fresh_back (e2.trans e3) hp) ((e2.trans e3).trans e4) h4⟩
theorem el_of {σ : L2.St} {H : Hp} {ta tk : TE} {b : Bool} {a : Addr} {ns : List Int} {k : Nat} (h : Ev ta σ H (.ref a)) (h2 : Ev tk σ H (.int (k : Int))) (sq : SqB K H b a (ns.map V.int)) (hl : ns.length ≤ 40000) (h3 : 1 ≤ k) (h4 : k ≤ ns.length) : EvL (tCall (sp_over_factor K) [] E0 (tCons ta (tCons tk tNil))) σ H ((ofL k ns).map V.int) := fun H1 e Q q =>
  h H1 e _ fun H2 e2 => h2 H2 (e.trans e2) _ fun H3 e3 => ⟨b, a, ns, k, rfl, sq.ex ((e.trans e2).trans e3), hl, h3, h4, fun p H4 hp e4 h4 => q p H4 (fresh_back (e2.trans e3) hp) ((e2.trans e3).trans e4) h4⟩
def sp_product_of (K : PySem.W.Frag) : Sp := fun vs H Q _ => ∃ (x : V) (b : Bool) (ps : PL), vs = [x] ∧ Dp K H x (cabD b ps) ∧ prodB ps = true ∧ ∀ v H', Ex H H' → PoA K (wz (prodL ps)) v H' → Q v H'
theorem drop_p {α : Type} {l : List α} {k : Nat} {p : α} (h : l[k]? = some p) : l.drop k = p :: l.drop (k + 1) := by
  obtain ⟨hlt, e3⟩ := List.getElem?_eq_some_iff.mp h
  rw [← e3]
  exact List.drop_eq_getElem_cons hlt
theorem ok_product_of (T : Wk h0 K mg base) : ClC CX0 PP w K mg base 9 "product_of" ["factors"] (sp_product_of K) := by
  obtain ⟨fd, F⟩ := f_product_of T
  refine ⟨_, fd, g_product_of T, F.kp, F.bindsN (fun _ _ _ _ _ _ us hl => match us, hl with | [_], _ => rfl), F.ok sc_product_of (fun vs H Q E h => ?_) (fun cdv A outer s H vs Q E hr h => ⟨_, PSs.nox (pss_cons (ps_set (i := 1) sc_product_of.nd rfl (Or.inl rfl) (pe_lst (pa_cons (pe_int) pa_nil))) (pss_cons (ps_for PassesOwn.never rfl (pi_any (pv 0)) (pg_tup rfl (pgs_cons (pg_name (i := 2) sc_product_of.nd rfl (Or.inl rfl)) (pgs_cons (pg_name (i := 3) sc_product_of.nd rfl (Or.inl rfl)) pgs_nil))) (pss_one (ps_for PassesOwn.never rfl (pi_range1 (by rfl) (m_range T) (pa_cons (pv 3) pa_nil)) (pg_name (i := 4) sc_product_of.nd rfl (Or.inl rfl)) (pss_one (ps_set (i := 1) sc_product_of.nd rfl (Or.inl rfl) (pe_cl (ok_times_factor T) hr (by decide) (by rfl) (pa_cons (pv 1) (pa_cons (pv 2) pa_nil)))))))) (pss_cons (ps_for PassesOwn.never rfl (pi_any (pv 0)) (pg_tup rfl (pgs_cons (pg_name (i := 2) sc_product_of.nd rfl (Or.inl rfl)) (pgs_cons (pg_name (i := 3) sc_product_of.nd rfl (Or.inl rfl)) pgs_nil))) (pss_one (ps_for PassesOwn.never rfl (pi_range1 (by rfl) (m_range T) (pa_cons (pe_un un_neg (pv 3)) pa_nil)) (pg_name (i := 4) sc_product_of.nd rfl (Or.inl rfl)) (pss_one (ps_set (i := 1) sc_product_of.nd rfl (Or.inl rfl) (pe_cl (ok_over_factor T) hr (by decide) (by rfl) (pa_cons (pv 1) (pa_cons (pv 2) pa_nil)))))))) (pss_one (ps_ret (pe_mkd (ok_Poly_init1 T) hr (by decide) (by rfl) (pa_cons (pv 1) pa_nil))))))), ?_⟩)⟩
  · obtain ⟨x, b, ps, rfl, _⟩ := h; rfl
  · obtain ⟨x, b, ps, rfl, hd, hB, hQ⟩ := h
    obtain ⟨a, xs, rfl, sq, da, hlen⟩ := cab_inv hd
    obtain ⟨hB0, hB⟩ := ba hB
    obtain ⟨hB1, hB⟩ := ba hB
    obtain ⟨hB2, hB3⟩ := ba hB
    have hB2 := of_decide_eq_true hB2
    refine q_asgL (xs := ([1] : List Int).map V.int) (el_lst (ea1 ev_c) (by show (1 : Nat) ≤ 100000; decide)) fun l H1 hl e1 hl1 => ?_
    refine q_forA (K := K) (b := b) (a := a) (xs := xs) (ev_var rfl) (sq.ex e1) (fun i σ' H' => ∃ (l : Addr) (x2 x3 x4 : Option V) (cur : List Int), σ' = [some (.ref a), some (.ref l), x2, x3, x4] ∧ Ex H H' ∧ H' l = some (.lst (cur.map V.int)) ∧ upL (ps.drop i) cur = upL ps [1] ∧ upB (ps.drop i) cur = true)
      (fun H2 e2 => ⟨l, none, none, none, [1], rfl, e1.trans e2, e2 _ _ hl1, rfl, hB1⟩) (fun i σ' H' _ ⟨_, _, _, _, _, _, e, _⟩ => sq.ex e) (fun i x σ' H' hx ⟨l, x2, x3, x4, cur, es, e, hcur, hu, hub⟩ => ?_) (fun σ' H' ⟨l, x2, x3, x4, cur, es, e, hcur, hu, hub⟩ => ?_)
    · subst es
      obtain ⟨p, c, hp, rfl, hc⟩ := cab_at da hx
      obtain ⟨p1, p2⟩ := p
      rw [drop_p hp] at hu hub
      obtain ⟨hb1, hb2⟩ := ba hub
      have hb1 : 0 ≤ p1 ∧ p2 ≤ 100 ∧ -100 ≤ p2 ∧ cur.length + p1.toNat * p2.toNat ≤ 40000 := of_decide_eq_true hb1
      obtain ⟨k, rfl⟩ : ∃ k : Nat, p1 = (k : Int) := ⟨p1.toNat, by omega⟩
      rw [Int.toNat_natCast] at hb1
      refine ⟨c, _, rfl, ex_t e hc, rfl, _, _, rfl, _, _, rfl, rfl, ?_⟩
      refine s_forR1N (n := p2) (ea1 (ev_var rfl)) (by omega) (fun m σ' H2 => ∃ (l : Addr) (x4 : Option V), σ' = [some (.ref a), some (.ref l), some (.int (k : Int)), some (.int p2), x4] ∧ Ex H H2 ∧ H2 l = some (.lst ((itT k m cur).map V.int)))
        (fun H2 e2 => ⟨l, x4, rfl, e.trans e2, e2 _ _ hcur⟩) (fun m σ' H2 hm ⟨l, x4, es, e2, hc2⟩ => ?_) (fun σ' H2 ⟨l, x4, es, e2, hc2⟩ => ?_)
      · subst es
        have hml : k * (m + 1) ≤ k * p2.toNat := Nat.mul_le_mul_left _ (by omega)
        rw [Nat.mul_succ] at hml
        refine s_asgL (el_tf (b := false) (ev_var rfl) (ev_var rfl) (SqB.l (sq_of hc2)) (by rw [itT_len]; omega)) fun q H3 hq e3 h3 => ⟨q, _, rfl, e2.trans e3, h3⟩
      · subst es
        exact ⟨l, _, _, _, _, rfl, e2, hc2, hu, hb2⟩
    · subst es
      have hdl : ps.drop xs.length = [] := List.drop_eq_nil_of_le (by omega)
      rw [hdl] at hu
      have hu : cur = upL ps [1] := hu
      subst hu
      refine q_forA (K := K) (b := b) (a := a) (xs := xs) (ev_var rfl) (sq.ex e) (fun i σ' H' => ∃ (l : Addr) (x2 x3 x4 : Option V) (cur : List Int), σ' = [some (.ref a), some (.ref l), x2, x3, x4] ∧ Ex H H' ∧ H' l = some (.lst (cur.map V.int)) ∧ dnL (ps.drop i) cur = prodL ps ∧ dnB (ps.drop i) cur = true ∧ cur.length ≤ 40000)
        (fun H2 e2 => ⟨l, _, _, _, _, rfl, e.trans e2, e2 _ _ hcur, rfl, hB3, hB2⟩) (fun i σ' H' _ ⟨_, _, _, _, _, _, e, _⟩ => sq.ex e) (fun i x σ' H' hx ⟨l, x2, x3, x4, cur, es, e, hcur, hu, hub, hcl⟩ => ?_) (fun σ' H' ⟨l, x2, x3, x4, cur, es, e, hcur, hu, hub, hcl⟩ => ?_)
      · subst es
        obtain ⟨p, c, hp, rfl, hc⟩ := cab_at da hx
        obtain ⟨p1, p2⟩ := p
        rw [drop_p hp] at hu hub
        obtain ⟨hb1, hb2⟩ := ba hub
        have hb1 : 1 ≤ p1 ∧ p2 ≤ 100 ∧ -100 ≤ p2 ∧ p1.toNat * (-p2).toNat ≤ cur.length := of_decide_eq_true hb1
        obtain ⟨k, rfl⟩ : ∃ k : Nat, p1 = (k : Int) := ⟨p1.toNat, by omega⟩
        rw [Int.toNat_natCast] at hb1
        refine ⟨c, _, rfl, ex_t e hc, rfl, _, _, rfl, _, _, rfl, rfl, ?_⟩
        refine s_forR1N (n := -p2) (ea1 (ev_un (ev_var rfl) ru_neg)) (by omega) (fun m σ' H2 => ∃ (l : Addr) (x4 : Option V), σ' = [some (.ref a), some (.ref l), some (.int (k : Int)), some (.int p2), x4] ∧ Ex H H2 ∧ H2 l = some (.lst ((itO k m cur).map V.int)))
          (fun H2 e2 => ⟨l, x4, rfl, e.trans e2, e2 _ _ hcur⟩) (fun m σ' H2 hm ⟨l, x4, es, e2, hc2⟩ => ?_) (fun σ' H2 ⟨l, x4, es, e2, hc2⟩ => ?_)
        · subst es
          have hml : k * (m + 1) ≤ k * (-p2).toNat := Nat.mul_le_mul_left _ (by omega)
          rw [Nat.mul_succ] at hml
          have hol := itO_len (k := k) (by omega) cur m
          refine s_asgL (el_of (b := false) (ev_var rfl) (ev_var rfl) (SqB.l (sq_of hc2)) (by omega) (by omega) (by omega)) fun q H3 hq e3 h3 => ⟨q, _, rfl, e2.trans e3, h3⟩
        · subst es
          have hol := itO_len (k := k) (by omega) cur (-p2).toNat
          exact ⟨l, _, _, _, _, rfl, e2, hc2, hu, hb2, by omega⟩
      · subst es
        have hdl : ps.drop xs.length = [] := List.drop_eq_nil_of_le (by omega)
        rw [hdl] at hu
        have hu : cur = prodL ps := hu
        subst hu
        exact s_retP (ep_PolyV (b := false) (ev_var rfl) (SqB.l (sq_of hcur)) hcl) fun v H2 e2 hv => hQ v H2 (e.trans e2) hv
/-! knot_factors -/
/-- a new list of data -/
def LsD (K : PySem.W.Frag) (ds : List PyData) (v : V) (H : Hp) : Prop := ∃ p xs, v = .ref p ∧ H p = some (.lst xs) ∧ DpAll K H xs ds
theorem monLs {ds : List PyData} : MonP (LsD K ds) := fun v H H' e ⟨p, xs, h1, h2, h3⟩ => ⟨p, xs, h1, e _ _ h2, DpAll.ex e h3⟩
theorem LsD.dp {ds : List PyData} {v : V} {H : Hp} (h : LsD K ds v H) : Dp K H v (.list ds) := by
  obtain ⟨p, xs, rfl, h1, h2⟩ := h
  exact Dp.seq (b := false) (sq_of h1) h2
theorem ep_lsD {σ : L2.St} {H : Hp} {ta : TA} {ds : List PyData} (h : EvAD K ta σ H ds) (hl : ds.length ≤ 100000) : EvP (tLst ta) σ H (LsD K ds) :=
  (ep_lst (PA := fun vs H1 => DpAll K H1 vs ds) h (fun vs H1 h => by rw [DpAll.length h]; exact hl) (fun vs H H' e h => DpAll.ex e h)).imp fun v H1 _ ⟨a, vs, ev, h1, h2⟩ => ⟨a, vs, ev, h1, h2⟩
theorem dpAll_app {H : Hp} : ∀ {xs ys : List V} {ds es : List PyData}, DpAll K H xs ds → DpAll K H ys es → DpAll K H (xs ++ ys) (ds ++ es)
  | [], _, _, _, h, h2 => by cases h; exact h2
  | _ :: _, _, _, _, h, h2 => by
    cases h with
    | cons a b => exact .cons a (dpAll_app b h2)
theorem ep_catD {σ : L2.St} {H : Hp} {te tx : TE} {ds es : List PyData} (h : EvP te σ H (LsD K ds)) (h2 : EvP tx σ H (LsD K es)) (hz : ds.length + es.length ≤ 100000) : EvP (tOp rCat te tx) σ H (LsD K (ds ++ es)) := fun H1 e Q q =>
  h H1 e _ fun v H2 e2 hv => h2 H2 (e.trans e2) _ fun u H3 e3 hu => by
    obtain ⟨a, xs, rfl, ha, da⟩ := hv
    obtain ⟨b, ys, rfl, hb, db⟩ := hu
    have l1 := DpAll.length da
    have l2 := DpAll.length db
    exact ⟨a, b, xs, ys, rfl, rfl, e3 _ _ ha, hb, sz_of (by omega), fun p hp => q _ _ ((e2.trans e3).trans (Ex.new hp)) ⟨p, xs ++ ys, rfl, upd_same, DpAll.ex (Ex.new hp) (dpAll_app (DpAll.ex e3 da) db)⟩⟩
theorem dpAll_rev {H : Hp} : ∀ {xs : List V} {ds : List PyData}, DpAll K H xs ds → DpAll K H xs.reverse ds.reverse
  | [], _, h => by cases h; exact .nil
  | x :: xs, _, h => by
    cases h with
    | cons a b =>
      rw [List.reverse_cons, List.reverse_cons]
      exact dpAll_app (dpAll_rev b) (.cons a .nil)
/-- for .. in (a new list of pairs)[::-1] -/
theorem q_forRevP {σ : L2.St} {H : Hp} {tl : TE} {tu tz : TS} {g : TG} {D : Ends} {ps : PL} (h : EvP tl σ H (fun v H1 => Dp K H1 v (cabD false ps))) (Pv : Hp → Nat → L2.St → Hp → Prop) (h0 : ∀ G, Ex H G → Pv G 0 σ G) (hl : ∀ G i σ' H', Pv G i σ' H' → Ex G H')
    (hs : ∀ G i c p σ' H', ps.reverse[i]? = some p → SqT K H' c [.int p.1, .int p.2] → Pv G i σ' H' → g (.ref c) σ' H' fun σ2 H2 => tu { D with nx := Pv G (i + 1), ct := Pv G (i + 1), bk := tz D } σ2 H2) (hd : ∀ G σ' H', Ex H G → Pv G ps.length σ' H' → tz D σ' H') : tSeq (tFor (iAny K (tRevA K tl)) g tu) tz D σ H :=
  h H (Ex.refl H) _ fun v H1 e hv => by
    obtain ⟨a, xs, rfl, sq, da, hlen⟩ := cab_inv hv
    refine ⟨false, a, xs, rfl, sq, fun p hp => ?_⟩
    have sq2 : SqB K (upd H1 p (.lst xs.reverse)) false p xs.reverse := sq_of upd_same
    have e2 := e.trans (Ex.new (o := .lst xs.reverse) hp)
    have da2 : DpAll K (upd H1 p (.lst xs.reverse)) xs.reverse (ps.reverse.map prD) := by
      rw [List.map_reverse]
      exact DpAll.ex (Ex.new hp) (dpAll_rev da)
    refine ⟨false, p, rfl, ⟨_, sq2⟩, for_it (D := { D with nx := tz D }) walk_B (Pv (upd H1 p (.lst xs.reverse))) (h0 _ e2) (fun i σ' H' hi q => sq2.ex (hl _ _ _ _ q)) (fun i x σ' H' H'' _ q y => ?_) (fun σ' H' q => ?_)⟩
    · obtain ⟨rfl, y2⟩ := y
      obtain ⟨pr, c, hp2, rfl, hc⟩ := cab_at (DpAll.ex (hl _ _ _ _ q) da2) y2
      exact hs _ i c pr σ' H'' hp2 hc q
    · rw [List.length_reverse, hlen] at q
      exact hd _ σ' H' e2 q
def knF : PL → Int → PL
  | [], _ => []
  | (p, a) :: ps, e => [(p * a * e, 1), (e, 1), (p * e, -1), (a * e, -1)] ++ knF ps (e * p)
def knB : PL → Int → Bool
  | [], _ => true
  | (p, a) :: ps, e => (decide (0 < p ∧ p < 2 ^ 20) && (decide (0 < a ∧ a < 2 ^ 20) && decide (0 < e ∧ e < 2 ^ 20))) && knB ps (e * p)
theorem ep_pr {σ : L2.St} {H : Hp} {ta tb : TE} {a b : Int} (h : Ev ta σ H (.int a)) (h2 : Ev tb σ H (.int b)) : EvP (tTup (tCons ta (tCons tb tNil))) σ H (fun v H1 => Dp K H1 v (prD (a, b))) := ep_pair h h2 (.int _) (.int _)
def sp_knot_factors (K : PySem.W.Frag) : Sp := fun vs H Q _ => ∃ (a : Addr) (ns : List Int), vs = [.ref a] ∧ SqT K H a (ns.map V.int) ∧ okRow ns = true ∧ knB (cabOf ns).reverse 1 = true ∧ ∀ v H', Ex H H' → Dp K H' v (cabD false (knF (cabOf ns).reverse 1)) → Q v H'
theorem ok_knot_factors (T : Wk h0 K mg base) : ClC CX0 PP w K mg base 3 "knot_factors" ["row"] (sp_knot_factors K) := by
  obtain ⟨fd, F⟩ := f_knot_factors T
  refine ⟨_, fd, g_knot_factors T, F.kp, F.bindsN (fun _ _ _ _ _ _ us hl => match us, hl with | [_], _ => rfl), F.ok sc_knot_factors (fun vs H Q E h => ?_) (fun cdv A outer s H vs Q E hr h => ⟨_, PSs.nox (pss_cons (ps_par (i := 1) (j := 2) (by rfl) sc_knot_factors.nd rfl rfl (by decide) rfl rfl (pa_cons (pe_lst pa_nil) (pa_cons (pe_int) pa_nil)) (by rfl)) (pss_cons (ps_for PassesOwn.never rfl (pi_any (pe_revA (pe_cl (ok_cable_of T) hr (by decide) (by rfl) (pa_cons (pv 0) pa_nil)))) (pg_tup rfl (pgs_cons (pg_name (i := 3) sc_knot_factors.nd rfl (Or.inl rfl)) (pgs_cons (pg_name (i := 4) sc_knot_factors.nd rfl (Or.inl rfl)) pgs_nil))) (pss_cons (ps_set (i := 1) sc_knot_factors.nd rfl (Or.inl rfl) (pe_op op_cat (pv 1) (pe_lst (pa_cons (pe_tup (pa_cons (pe_op op_mul (pe_op op_mul (pv 3) (pv 4)) (pv 2)) (pa_cons (pe_int) pa_nil))) (pa_cons (pe_tup (pa_cons (pv 2) (pa_cons (pe_int) pa_nil))) (pa_cons (pe_tup (pa_cons (pe_op op_mul (pv 3) (pv 2)) (pa_cons (pe_un un_neg (pe_int)) pa_nil))) (pa_cons (pe_tup (pa_cons (pe_op op_mul (pv 4) (pv 2)) (pa_cons (pe_un un_neg (pe_int)) pa_nil))) pa_nil))))))) (pss_one (ps_set (i := 2) sc_knot_factors.nd rfl (Or.inl rfl) (pe_op op_mul (pv 2) (pv 3)))))) (pss_one (ps_ret (pv 1))))), ?_⟩)⟩
  · obtain ⟨a, ns, rfl, _⟩ := h; rfl
  · obtain ⟨a, ns, rfl, sq, hok, hk, hQ⟩ := h
    have cl : (cabOf ns).length ≤ 5 := by
      have := (okRow_iff hok).len
      unfold cabOf
      rw [cabUp_len]
      omega
    generalize hC : cabOf ns = C at *
    refine q_parL (el_lst ea_nil (by decide)) ev_c fun l H1 hl1 e1 h1 => ?_
    refine q_forRevP (K := K) (ps := C) (ep_call (ea1 (ev_var rfl)) fun H2 e2 Q q E => ⟨a, ns, rfl, ex_t (e1.trans e2) sq, hok, fun v H3 e3 hv => q v H3 e3 (hC ▸ hv)⟩) (fun G i σ' H' => ∃ (v : V) (x3 x4 : Option V) (ds : PL) (e0 : Int), σ' = [some (.ref a), some v, some (.int e0), x3, x4] ∧ Ex G H' ∧ LsD K (ds.map prD) v H' ∧ ds.length = 4 * i ∧ knF C.reverse 1 = ds ++ knF (C.reverse.drop i) e0 ∧ knB (C.reverse.drop i) e0 = true)
      (fun G e2 => ⟨.ref l, none, none, [], 1, rfl, Ex.refl G, ⟨l, [], rfl, e2 _ _ h1, .nil⟩, rfl, rfl, hk⟩) (fun G i σ' H' ⟨_, _, _, _, _, _, e, _⟩ => e) (fun G i c p σ' H' hp hc ⟨v, x3, x4, ds, e0, es, e, hv, hdl, hF, hB⟩ => ?_) (fun G σ' H' e2 ⟨v, x3, x4, ds, e0, es, e, hv, hdl, hF, hB⟩ => ?_)
    · subst es
      obtain ⟨p, b⟩ := p
      have hi : i < C.length := by have := (List.getElem?_eq_some_iff.mp hp).1; rw [List.length_reverse] at this; exact this
      rw [drop_p hp] at hF hB
      obtain ⟨hb1, hb2⟩ := ba hB
      obtain ⟨hp1, hb1⟩ := ba hb1
      obtain ⟨ha1, he1⟩ := ba hb1
      have hp1 := of_decide_eq_true hp1
      have ha1 := of_decide_eq_true ha1
      have he1 := of_decide_eq_true he1
      refine ⟨c, _, rfl, hc, rfl, _, _, rfl, _, _, rfl, rfl, ?_⟩
      have small : ∀ {x y : Int}, 0 < x ∧ x < 2 ^ 20 → 0 < y ∧ y < 2 ^ 20 → CMul x y := fun h1 h2 => cmul (.inl ⟨by omega, by omega⟩)
      refine q_asgP (P := LsD K ((ds ++ [(p * b * e0, 1), (e0, 1), (p * e0, -1), (b * e0, -1)]).map prD)) ?_ fun u H2 e3 hu => ?_
      · rw [List.map_append]
        refine ep_catD ((Ev.p (ev_var rfl)).imp fun u H2 e2 eu => eu ▸ monLs _ _ _ e2 hv) (ep_lsD (ds := [prD (p * b * e0, 1), prD (e0, 1), prD (p * e0, -1), prD (b * e0, -1)]) ?_ (by show 4 ≤ 100000; decide)) (by rw [List.length_map, hdl]; show 4 * i + 4 ≤ 100000; omega)
        refine ead_cons (ep_pr (ev_op (x := .int (p * b)) (y := .int e0) (ev_op (ev_var rfl) (ev_var rfl) (rv_I (small hp1 ha1))) (ev_var rfl) (rv_I (cmul (.inr ⟨by omega, by omega⟩)))) ev_c) (ead_cons (ep_pr (ev_var rfl) ev_c) (ead_cons (ep_pr (ev_op (ev_var rfl) (ev_var rfl) (rv_I (small hp1 he1))) (ev_un ev_c ru_neg)) (ead_cons (ep_pr (ev_op (ev_var rfl) (ev_var rfl) (rv_I (small ha1 he1))) (ev_un ev_c ru_neg)) ead_nil)))
      · refine s_asg (v := .int (e0 * p)) (ev_op (ev_var rfl) (ev_var rfl) (rv_I (small he1 hp1))) fun H3 e4 => ⟨u, _, _, ds ++ [(p * b * e0, 1), (e0, 1), (p * e0, -1), (b * e0, -1)], e0 * p, rfl, (e.trans e3).trans e4, monLs _ _ _ e4 hu, by rw [List.length_append, hdl]; show 4 * i + 4 = 4 * (i + 1); omega, ?_, hb2⟩
        rw [hF, List.append_assoc]
        rfl
    · subst es
      have hdl0 : C.reverse.drop C.length = [] := List.drop_eq_nil_of_le (by rw [List.length_reverse]; exact Nat.le_refl _)
      rw [hdl0] at hF
      have hF : knF C.reverse 1 = ds := hF.trans (List.append_nil _)
      refine s_ret (ev_var rfl) fun H2 e3 => hQ v H2 ((e1.trans (e2.trans e)).trans e3 |> fun z => z) ?_
      rw [hF]
      exact (monLs _ _ _ e3 hv).dp
end
end K42
set_option maxHeartbeats 0
/-! The walks: knot_poly, orders_poly. -/
namespace K42
open PySem PySem.Spec PyProof.Rows L2 He TC Evl
section
variable {w : World} {h0 base : Heap} {K : PySem.W.Frag} {mg : Str → Option Value}
/-- rows that make no character -/
def BadW (K : PySem.W.Frag) (E : XK) (H : Hp) (x : V) (d : PyData) : Prop := (isInts d = false ∧ Err K "BadRow" "value" E H (fun v _ => v = x)) ∨ ∃ (b : Bool) (ns : List Int) (p : Str × Int), d = seqD b (ns.map PyData.int) ∧ chBreach ns = some p ∧ Err K "BadCharacters" "answer" E H (fun v H' => ChA K v H' (some p))
theorem BadW.need {E : XK} {H : Hp} {x : V} {d : PyData} (h : BadW K E H x d) (hd : Dp K H x d) (hl : (itemsD d).length ≤ 40000) : ∀ H1, Ex H H1 → ∀ Q, sp_need_character K [x] H1 Q E := fun H1 e1 Q => by
  rcases h with ⟨hn, hE⟩ | ⟨b, ns, p, rfl, hp, hE⟩
  · exact ⟨x, d, rfl, Dp.ex e1 hd, hl, fun _ => hE.ex e1, fun b ns ed => absurd (hn.symm.trans (by rw [ed]; exact isInts_seq)) Bool.false_ne_true⟩
  · exact ⟨x, _, rfl, Dp.ex e1 hd, hl, fun hn => absurd (hn.symm.trans isInts_seq) Bool.false_ne_true, fun b' ns' ed => by
      have en := ints_inj ed
      subst en
      constructor
      · intro h
        rw [hp] at h
        cases h
      · intro p' hp'
        rw [hp] at hp'
        cases hp'
        exact hE.ex e1⟩
def sp_badrow (K : PySem.W.Frag) : Sp := fun vs H Q E => ∃ x d, vs = [x] ∧ Dp K H x d ∧ (itemsD d).length ≤ 40000 ∧ BadW K E H x d
theorem RowB.small {n : Nat} {rest : List Nat} (R : RowB n rest) : (iN (n :: rest)).length ≤ 40000 := by
  have := R.len
  rw [iN_clen]
  omega
theorem ev_ixL0 {σ : L2.St} {H : Hp} {te : TE} {xs : List V} {v : V} (h : EvL te σ H xs) (h0 : xs[0]? = some v) : Ev (tOp (rIxA K) te (tC (.int 0))) σ H v := fun H1 e Q q =>
  h H1 e _ fun a H2 ha e2 h2 => (ev_c (σ := σ) (H := H2) (v := .int 0)) H2 (Ex.refl _) _ fun H3 e3 => (rv_ixA (b := false) (i := 0) (sq_of h2) (atI_n (i := 0) h0)) H3 e3 _ fun H4 e4 => q H4 ((e2.trans e3).trans e4)
theorem el_times {σ : L2.St} {H : Hp} {ta tk : TE} {a : Addr} {n : Nat} {rest : List Nat} {k : Int} (h : Ev ta σ H (.ref a)) (h2 : Ev tk σ H (.int k)) (hx : SqT K H a ((iN (n :: rest)).map V.int)) (R : RowB n rest) : EvL (tCall (sp_times_of K) [] E0 (tCons ta (tCons tk tNil))) σ H ((times n rest k).map V.int) := fun H1 e Q q =>
  h H1 e _ fun H2 e2 => h2 H2 (e.trans e2) _ fun H3 e3 => ⟨a, n, rest, k, rfl, ex_t ((e.trans e2).trans e3) hx, R, fun p H4 hp e4 h4 => q p H4 (fresh_back (e2.trans e3) hp) ((e2.trans e3).trans e4) h4⟩
/-! knot_poly -/
def knL (ns : List Int) : List Int := wz (prodL (knF (cabOf ns).reverse 1))
def sp_knot_poly (K : PySem.W.Frag) : Sp := fun vs H Q _ => ∃ (x : V) (b : Bool) (ns : List Int), vs = [x] ∧ Dp K H x (seqD b (ns.map PyData.int)) ∧ okRow ns = true ∧ knB (cabOf ns).reverse 1 = true ∧ prodB (knF (cabOf ns).reverse 1) = true ∧ ∀ v H', Ex H H' → PoA K (knL ns) v H' → Q v H'
theorem ok_knot_poly (T : Wk h0 K mg base) : ClC (L2.CX PP w) PP w K mg base 10 "knot_poly" ["row"] (sp_knot_poly K) := by
  obtain ⟨fd, F⟩ := f_knot_poly T
  refine ⟨_, fd, g_knot_poly T, F.kp, F.bindsN (fun _ _ _ _ _ _ us hl => match us, hl with | [_], _ => rfl), F.ok sc_knot_poly (fun vs H Q E h => ?_) (fun cdv A outer s H vs Q E hr h => ⟨_, (pss_one (ps_ret (pe_cl (ok_product_of T) hr (by decide) (by rfl) (pa_cons (pe_cl (ok_knot_factors T) hr (by decide) (by rfl) (pa_cons (pe_clX (ok_need_character T) hr (by decide) (passes_call (takes_of rfl rfl rfl rfl) (fun _ _ _ _ h => h)) (by rfl) (pa_cons (pv 0) pa_nil)) pa_nil)) pa_nil)))), ?_⟩)⟩
  · obtain ⟨x, b, ns, rfl, _⟩ := h; rfl
  · obtain ⟨x, b, ns, rfl, hd, hok, hkB, hpB, hQ⟩ := h
    have ok := okRow_iff hok
    refine s_retP (P := PoA K (knL ns)) (ep_callP (eap1 (P := fun v H1 => Dp K H1 v (cabD false (knF (cabOf ns).reverse 1))) (ep_callP (eap1 (ep_call (ea1 (ev_var rfl)) (sp_need_ok hd (by have := ok.len; omega) ok.br))) fun vs H1 e1 ⟨v, hv, hdv⟩ => ?_)) fun vs H1 e1 ⟨v, hv, hdv⟩ => ?_) fun v H1 e1 hv => hQ v H1 e1 hv
    · obtain ⟨a, rfl, sq⟩ := tup_ints_inv hdv
      subst hv
      exact fun H2 e2 Q q E => ⟨a, ns, rfl, ex_t e2 sq, hok, hkB, fun v H3 e3 hv => q v H3 e3 hv⟩
    · subst hv
      exact fun H2 e2 Q q E => ⟨v, false, _, rfl, Dp.ex e2 hdv, hpB, fun v H3 e3 hv => q v H3 e3 hv⟩
theorem ok_knot_polyE (T : Wk h0 K mg base) : ClC (L2.CX PP w) PP w K mg base 10 "knot_poly" ["row"] (sp_badrow K) := by
  obtain ⟨fd, F⟩ := f_knot_poly T
  refine ⟨_, fd, g_knot_poly T, F.kp, F.bindsN (fun _ _ _ _ _ _ us hl => match us, hl with | [_], _ => rfl), F.ok sc_knot_poly (fun vs H Q E h => ?_) (fun cdv A outer s H vs Q E hr h => ⟨_, (pss_one (ps_ret (pe_cl (ok_product_of T) hr (by decide) (by rfl) (pa_cons (pe_cl (ok_knot_factors T) hr (by decide) (by rfl) (pa_cons (pe_clX (ok_need_character T) hr (by decide) (passes_call (takes_of rfl rfl rfl rfl) (fun _ _ _ _ h => h)) (by rfl) (pa_cons (pv 0) pa_nil)) pa_nil)) pa_nil)))), ?_⟩)⟩
  · obtain ⟨x, d, rfl, _⟩ := h; rfl
  · obtain ⟨x, d, rfl, hd, hl, hB⟩ := h
    exact ⟨x, rfl, hB.need hd hl H (Ex.refl _) _⟩
/-! orders_poly -/
theorem ep_PolyL {te : TE} {σ : L2.St} {H : Hp} {ns : List Int} {E : XK} (h : EvL te σ H (ns.map V.int)) (hl : ns.length ≤ 40000) : EvP (tMake (ga K "Poly") (sp_Poly_init K) [] E (tCons te tNil)) σ H (PoA K (wz ns)) :=
  (ep_makeP (eap1 (EvL.p h)) fun vs H1 e1 ⟨v, hv, a, ev, ha⟩ => by
    subst hv ev
    exact mk_Poly (b := false) (SqB.l (sq_of ha)) hl).imp fun v H1 _ ⟨x, ev, hx⟩ => ev ▸ hx
def pT (n : Nat) (rest : List Nat) (k : Nat) : Int := if 0 ≤ t0 n rest (k : Int) then 1 else 0
def ordL (n : Nat) (rest : List Nat) (m : Nat) : List Int := (List.range (m + 1)).map fun j => pT n rest j - (if j = 0 then 0 else pT n rest (j - 1))
theorem ordL_at {n : Nat} {rest : List Nat} {m j : Nat} (h : j < m + 1) : (ordL n rest m).getD j 0 = pT n rest j - (if j = 0 then 0 else pT n rest (j - 1)) := by
  unfold ordL
  rw [List.getD_eq_getElem?_getD, List.getElem?_map, List.getElem?_range h]
  rfl
def sp_orders_poly (K : PySem.W.Frag) : Sp := fun vs H Q _ => ∃ (x : V) (b : Bool) (n : Nat) (rest : List Nat), vs = [x] ∧ Dp K H x (seqD b ((iN (n :: rest)).map PyData.int)) ∧ RowB n rest ∧ cn n rest ≤ 30000 ∧ ∀ v H', Ex H H' → PoA K (wz (ordL n rest (cn n rest).toNat)) v H' → Q v H'
theorem ok_orders_poly (T : Wk h0 K mg base) : ClC (L2.CX PP w) PP w K mg base 9 "orders_poly" ["row"] (sp_orders_poly K) := by
  obtain ⟨fd, F⟩ := f_orders_poly T
  refine ⟨_, fd, g_orders_poly T, F.kp, F.bindsN (fun _ _ _ _ _ _ us hl => match us, hl with | [_], _ => rfl), F.ok sc_orders_poly (fun vs H Q E h => ?_) (fun cdv A outer s H vs Q E hr h => ⟨_, (pss_cons (ps_set (i := 0) sc_orders_poly.nd rfl (Or.inl rfl) (pe_clX (ok_need_character T) hr (by decide) (passes_call (takes_of rfl rfl rfl rfl) (fun _ _ _ _ h => h)) (by rfl) (pa_cons (pv 0) pa_nil))) (pss_cons (ps_set (i := 1) sc_orders_poly.nd rfl (Or.inl rfl) (pe_cl (ok_conductor_of T) hr (by decide) (by rfl) (pa_cons (pv 0) pa_nil))) (pss_cons (ps_set (i := 2) sc_orders_poly.nd rfl (Or.inl rfl) (pe_op op_rep (pe_lst (pa_cons (pe_int) pa_nil)) (pe_op op_add (pv 1) (pe_int)))) (pss_cons (ps_for (passes_of rfl) rfl (pi_range1 (by rfl) (m_range T) (pa_cons (pe_op op_add (pv 1) (pe_int)) pa_nil)) (pg_name (i := 3) sc_orders_poly.nd rfl (Or.inl rfl)) (pss_one (ps_if (pt_cmpR (op_ge) (pe_ix (ix_seqK (K := K) rfl) (pe_cl (ok_times_of T) hr (by decide) (by rfl) (pa_cons (pv 0) (pa_cons (pv 3) pa_nil))) (pe_int) (fun _ _ => rfl)) (pe_int) (nomark _)) (pss_cons (ps_asg (pe_op op_add (pe_ix (ix_seqK (K := K) rfl) (pv 2) (pv 3) (fun _ _ => rfl)) (pe_int)) (pg_sub (pv 2) (pv 3) set_list)) (pss_one (ps_asg (pe_op op_sub (pe_ix (ix_seqK (K := K) rfl) (pv 2) (pe_op op_add (pv 3) (pe_int)) (fun _ _ => rfl)) (pe_int)) (pg_sub (pv 2) (pe_op op_add (pv 3) (pe_int)) set_list)))) pss_nil))) (pss_one (ps_ret (pe_mkd (ok_Poly_init1 T) hr (by decide) (by rfl) (pa_cons (pe_slice sl_list (pv 2) po_none (po_some (pe_op op_add (pv 1) (pe_int)))) pa_nil)))))))), ?_⟩)⟩
  · obtain ⟨x, b, n, rest, rfl, _⟩ := h; rfl
  · obtain ⟨x, b, n, rest, rfl, hd, R, hc, hQ⟩ := h
    obtain ⟨c, hcn⟩ : ∃ c : Nat, cn n rest = (c : Int) := ⟨(cn n rest).toNat, by have := R.row.cpos; omega⟩
    rw [hcn] at hQ hc
    rw [Int.toNat_natCast] at hQ
    refine q_asgP (ep_call (ea1 (ev_var rfl)) (sp_need_ok hd R.small R.br)) fun v H1 e1 hv => ?_
    obtain ⟨a, rfl, sq⟩ := tup_ints_inv hv
    refine q_asg (v := .int (c : Int)) (ev_call0 (ea1 (ev_var rfl)) fun H2 e2 Q q E => ⟨a, n, rest, rfl, ex_t e2 sq, R, fun H3 e3 => by rw [hcn]; exact q H3 e3⟩) fun H2 e2 => ?_
    refine q_asgL (xs := (List.replicate (c + 2) (0 : Int)).map V.int) ?_ fun l H3 hl3 e3 h3 => ?_
    · rw [List.map_replicate]
      exact el_rep1 (k := c + 2) (x := .int 0) ev_c (ev_is (ev_op (ev_var rfl) ev_c rv_I0) (by congr 1)) (by omega)
    refine q_forR1 (n := ((c + 1 : Nat) : Int)) (ea1 (ev_is (ev_op (ev_var rfl) ev_c rv_I0) (by congr 1))) ⟨by omega, by omega⟩ (fun i σ' H' => ∃ (x3 : Option V) (fo : List Int), σ' = [some (.ref a), some (.int (c : Int)), some (.ref l), x3] ∧ Ex H H' ∧ Ex H1 H' ∧ H' l = some (.lst (fo.map V.int)) ∧ fo.length = c + 2 ∧ ∀ j, fo.getD j 0 = (if j < i then pT n rest j else 0) - (if 1 ≤ j ∧ j ≤ i then pT n rest (j - 1) else 0))
      (fun H4 e4 => ⟨none, _, rfl, ((e1.trans e2).trans e3).trans e4, (e2.trans e3).trans e4, e4 _ _ h3, List.length_replicate, fun j => ?_⟩) (fun i σ' H' hi ⟨x3, fo, es, e, eH, hfo, hfl, hfa⟩ => ?_) (fun σ' H' ⟨x3, fo, es, e, eH, hfo, hfl, hfa⟩ => ?_)
    · rw [if_neg (Nat.not_lt_zero j), if_neg (show ¬ (1 ≤ j ∧ j ≤ 0) by omega), Int.sub_zero]
      rw [List.getD_eq_getElem?_getD, List.getElem?_replicate]
      split <;> rfl
    · subst es
      have hi' : i < c + 1 := by omega
      have hp1 : H1 l = none := fresh_back e2 hl3
      have hp0 : H l = none := fresh_back e1 hp1
      refine s_when (b := decide (0 ≤ t0 n rest (i : Int))) (et_test (ev_op (ev_ixL0 (el_times (ev_var rfl) (ev_var rfl) (ex_t eH sq) R) rfl) ev_c rv_I0)) (fun hy H4 e4 => ?_) (fun hn H4 e4 => ⟨_, fo, rfl, e.trans e4, eH.trans e4, e4 _ _ hfo, hfl, fun j => ?_⟩)
      · have hy := of_decide_eq_true hy
        have pi : pT n rest i = 1 := if_pos hy
        have f4 := e4 _ _ hfo
        refine q_setL (j := i) (v := .int (fo.getD i 0 + 1)) f4 (ev_op (ev_ixA (b := false) (ev_var rfl) (ev_var rfl) (SqB.l (sq_of f4)) (atI_n (int_at (by omega)))) ev_c rv_I0) (ev_var rfl) (ev_var rfl) (by rw [List.length_map]; omega) fun H5 e5 => ?_
        have f6 : (upd H5 l (.lst ((fo.map V.int).set i (.int (fo.getD i 0 + 1))))) l = some (.lst ((fo.set i (fo.getD i 0 + 1)).map V.int)) := by rw [List.map_set]; exact upd_same
        have ei : (i : Int) + 1 = ((i + 1 : Nat) : Int) := by omega
        refine s_setL (j := i + 1) (v := .int ((fo.set i (fo.getD i 0 + 1)).getD (i + 1) 0 - 1)) f6 (ev_op (ev_ixA (b := false) (i := ((i + 1 : Nat) : Int)) (ev_var rfl) (ev_is (ev_op (ev_var rfl) ev_c rv_I0) (by congr 1)) (SqB.l (sq_of f6)) (atI_n (int_at (by rw [List.length_set]; omega)))) ev_c rv_I0) (ev_var rfl) (ev_is (ev_op (ev_var rfl) ev_c rv_I0) (by congr 1)) (by rw [List.length_map, List.length_set]; omega) fun H6 e6 => ?_
        refine ⟨_, (fo.set i (fo.getD i 0 + 1)).set (i + 1) ((fo.set i (fo.getD i 0 + 1)).getD (i + 1) 0 - 1), rfl, Ex.mut ((Ex.mut ((e.trans e4).trans e5) hp0).trans e6) hp0, Ex.mut ((Ex.mut ((eH.trans e4).trans e5) hp1).trans e6) hp1, by simp only [List.map_set]; exact upd_same, by rw [List.length_set, List.length_set]; exact hfl, fun j => ?_⟩
        rw [getD_set (by rw [List.length_set]; omega), getD_set (by omega), if_neg (show ¬ (i + 1 = i) by omega), getD_set (by omega), hfa i, hfa (i + 1), hfa j]
        rw [if_neg (show ¬ (i < i) by omega), if_neg (show ¬ (i + 1 < i) by omega), if_neg (show ¬ (1 ≤ i + 1 ∧ i + 1 ≤ i) by omega)]
        by_cases h1 : j = i + 1
        · subst h1
          rw [if_pos rfl, if_neg (show ¬ (i + 1 < i + 1) by omega), if_pos (show 1 ≤ i + 1 ∧ i + 1 ≤ i + 1 by omega), Nat.add_sub_cancel, pi]
          omega
        · rw [if_neg h1]
          by_cases h2 : j = i
          · subst h2
            rw [if_pos rfl, if_pos (show j < j + 1 by omega), pi]
            by_cases h3 : 1 ≤ j
            · rw [if_pos ⟨h3, Nat.le_refl _⟩, if_pos ⟨h3, by omega⟩]
              omega
            · rw [if_neg (fun z => h3 z.1), if_neg (fun z => h3 z.1)]
              omega
          · rw [if_neg h2]
            by_cases h3 : j < i
            · rw [if_pos h3, if_pos (show j < i + 1 by omega)]
              by_cases h4 : 1 ≤ j
              · rw [if_pos ⟨h4, by omega⟩, if_pos ⟨h4, by omega⟩]
              · rw [if_neg (fun z => h4 z.1), if_neg (fun z => h4 z.1)]
            · rw [if_neg h3, if_neg (show ¬ (j < i + 1) by omega), if_neg (show ¬ (1 ≤ j ∧ j ≤ i) by omega), if_neg (show ¬ (1 ≤ j ∧ j ≤ i + 1) by omega)]
      · have hn := of_decide_eq_false hn
        have pi : pT n rest i = 0 := if_neg hn
        rw [hfa j]
        by_cases h2 : j = i
        · subst h2
          rw [if_neg (show ¬ (j < j) by omega), if_pos (show j < j + 1 by omega), pi]
          by_cases h3 : 1 ≤ j
          · rw [if_pos ⟨h3, Nat.le_refl _⟩, if_pos ⟨h3, by omega⟩]
          · rw [if_neg (fun z => h3 z.1), if_neg (fun z => h3 z.1)]
        · by_cases h1 : j = i + 1
          · subst h1
            rw [if_neg (show ¬ (i + 1 < i) by omega), if_neg (show ¬ (i + 1 < i + 1) by omega), if_neg (show ¬ (1 ≤ i + 1 ∧ i + 1 ≤ i) by omega), if_pos (show 1 ≤ i + 1 ∧ i + 1 ≤ i + 1 by omega), Nat.add_sub_cancel, pi]
          · by_cases h3 : j < i
            · rw [if_pos h3, if_pos (show j < i + 1 by omega)]
              by_cases h4 : 1 ≤ j
              · rw [if_pos ⟨h4, by omega⟩, if_pos ⟨h4, by omega⟩]
              · rw [if_neg (fun z => h4 z.1), if_neg (fun z => h4 z.1)]
            · rw [if_neg h3, if_neg (show ¬ (j < i + 1) by omega), if_neg (show ¬ (1 ≤ j ∧ j ≤ i) by omega), if_neg (show ¬ (1 ≤ j ∧ j ≤ i + 1) by omega)]
    · subst es
      rw [Int.toNat_natCast] at hfa
      have hcut : cutV (fo.map V.int) none (some ((c + 1 : Nat) : Int)) = (ordL n rest c).map V.int := by
        rw [cut_take, ← List.map_take]
        congr 1
        refine ext0 (by rw [List.length_take, hfl]; unfold ordL; rw [List.length_map, List.length_range]; omega) fun j hj => ?_
        rw [List.length_take, hfl] at hj
        rw [getD_take, if_pos (by omega), hfa j, ordL_at (by omega), if_pos (by omega)]
        by_cases h : j = 0
        · rw [if_pos h, if_neg (show ¬ (1 ≤ j ∧ j ≤ c + 1) by omega)]
        · rw [if_neg h, if_pos (show 1 ≤ j ∧ j ≤ c + 1 by omega)]
      have hsl := el_slL (K := K) (te := tVar 2) (tl := tNoPart) (th := tPart (tOp (rI0 fun i j => .int (i + j)) (tVar 1) (tC (.int 1)))) (σ := [some (.ref a), some (.int (c : Int)), some (.ref l), x3]) (H := H') (xs := fo.map V.int) (lo := none) (hi := some ((c + 1 : Nat) : Int)) (ev_var rfl) (sq_of hfo) eo_none (eo_some (ev_is (ev_op (ev_var rfl) ev_c rv_I0) (by congr 1)))
      rw [hcut] at hsl
      exact s_retP (ep_PolyL hsl (by unfold ordL; rw [List.length_map, List.length_range]; omega)) fun v H2 e2 hv => hQ v H2 (e.trans e2) hv
theorem ok_orders_polyE (T : Wk h0 K mg base) : ClC (L2.CX PP w) PP w K mg base 9 "orders_poly" ["row"] (sp_badrow K) := by
  obtain ⟨fd, F⟩ := f_orders_poly T
  refine ⟨_, fd, g_orders_poly T, F.kp, F.bindsN (fun _ _ _ _ _ _ us hl => match us, hl with | [_], _ => rfl), F.ok sc_orders_poly (fun vs H Q E h => ?_) (fun cdv A outer s H vs Q E hr h => ⟨_, (pss_cons (ps_set (i := 0) sc_orders_poly.nd rfl (Or.inl rfl) (pe_clX (ok_need_character T) hr (by decide) (passes_call (takes_of rfl rfl rfl rfl) (fun _ _ _ _ h => h)) (by rfl) (pa_cons (pv 0) pa_nil))) (pss_cons (ps_set (i := 1) sc_orders_poly.nd rfl (Or.inl rfl) (pe_cl (ok_conductor_of T) hr (by decide) (by rfl) (pa_cons (pv 0) pa_nil))) (pss_cons (ps_set (i := 2) sc_orders_poly.nd rfl (Or.inl rfl) (pe_op op_rep (pe_lst (pa_cons (pe_int) pa_nil)) (pe_op op_add (pv 1) (pe_int)))) (pss_cons (ps_for (passes_of rfl) rfl (pi_range1 (by rfl) (m_range T) (pa_cons (pe_op op_add (pv 1) (pe_int)) pa_nil)) (pg_name (i := 3) sc_orders_poly.nd rfl (Or.inl rfl)) (pss_one (ps_if (pt_cmpR (op_ge) (pe_ix (ix_seqK (K := K) rfl) (pe_cl (ok_times_of T) hr (by decide) (by rfl) (pa_cons (pv 0) (pa_cons (pv 3) pa_nil))) (pe_int) (fun _ _ => rfl)) (pe_int) (nomark _)) (pss_cons (ps_asg (pe_op op_add (pe_ix (ix_seqK (K := K) rfl) (pv 2) (pv 3) (fun _ _ => rfl)) (pe_int)) (pg_sub (pv 2) (pv 3) set_list)) (pss_one (ps_asg (pe_op op_sub (pe_ix (ix_seqK (K := K) rfl) (pv 2) (pe_op op_add (pv 3) (pe_int)) (fun _ _ => rfl)) (pe_int)) (pg_sub (pv 2) (pe_op op_add (pv 3) (pe_int)) set_list)))) pss_nil))) (pss_one (ps_ret (pe_mkd (ok_Poly_init1 T) hr (by decide) (by rfl) (pa_cons (pe_slice sl_list (pv 2) po_none (po_some (pe_op op_add (pv 1) (pe_int)))) pa_nil)))))))), ?_⟩)⟩
  · obtain ⟨x, d, rfl, _⟩ := h; rfl
  · obtain ⟨x, d, rfl, hd, hl, hB⟩ := h
    exact ⟨x, rfl, hB.need hd hl H (Ex.refl _) _⟩
end
end K42
set_option maxHeartbeats 0
/-! The law's helpers: conductor, times, knot, generators, orders. -/
namespace K42
open PySem PySem.Spec PyProof.Rows L2 He TC Evl
section
variable {w : World} {h0 base : Heap} {K : PySem.W.Frag} {mg : Str → Option Value}
theorem q_par3VVL {σ : L2.St} {H : Hp} {ts tg tv : TE} {tz : TS} {D : Ends} {i j l : Nat} {zs : List V} {x y : V} (h1 : Ev ts σ H x) (h2 : Ev tg σ H y) (h3 : EvL tv σ H zs)
    (k : ∀ r H1, H r = none → Ex H H1 → H1 r = some (.lst zs) → tz D (((σ.set i (some x)).set j (some y)).set l (some (.ref r))) H1) : tSeq (tPar3 i j l (tCons ts (tCons tg (tCons tv tNil)))) tz D σ H :=
  h1 H (Ex.refl _) _ fun H1 e1 => h2 H1 e1 _ fun H2 e2 => h3 H2 (e1.trans e2) _ fun r H3 hr e3 hr3 => ⟨x, y, .ref r, rfl, k r H3 (fresh_back (e1.trans e2) hr) ((e1.trans e2).trans e3) hr3⟩
theorem q_par3V {σ : L2.St} {H : Hp} {ts tg tv : TE} {tz : TS} {D : Ends} {i j l : Nat} {x y z : V} (h1 : Ev ts σ H x) (h2 : Ev tg σ H y) (h3 : Ev tv σ H z)
    (k : ∀ H1, Ex H H1 → tz D (((σ.set i (some x)).set j (some y)).set l (some z)) H1) : tSeq (tPar3 i j l (tCons ts (tCons tg (tCons tv tNil)))) tz D σ H :=
  h1 H (Ex.refl _) _ fun H1 e1 => h2 H1 e1 _ fun H2 e2 => h3 H2 (e1.trans e2) _ fun H3 e3 => ⟨x, y, z, rfl, k H3 ((e1.trans e2).trans e3)⟩
/-- Euclid's sum -/
def euF : Nat → Int → Int → Int
  | 0, _, _ => 0
  | f + 1, a, c => if c = 0 then 0 else a / c * c * (c - 1) + euF f c (a % c)
def ahd (ns : List Int) (i : Nat) : Int := if i = 0 then 0 else sN ns i
def conG (ns : List Int) : Nat → Int
  | 0 => 0
  | i + 1 => conG ns i + euF (sS ns i).toNat (sN ns (i + 1) - ahd ns i) (sS ns i)
def conS (ns : List Int) : Int := conG ns (ns.length - 1)
def sp_law_g_conductor (K : PySem.W.Frag) : Sp := fun vs H Q _ => ∃ (a : Addr) (ns : List Int), vs = [.ref a] ∧ SqT K H a (ns.map V.int) ∧ okRow ns = true ∧ posR ns = true ∧ ∀ H', Ex H H' → Q (.int (conS ns)) H'
theorem ok_law_g_conductor (T : Wk h0 K mg base) : ClC CX0 PP w K mg base 3 "_law_g_conductor" ["row"] (sp_law_g_conductor K) := by
  obtain ⟨fd, F⟩ := f_law_g_conductor T
  refine ⟨_, fd, g_law_g_conductor T, F.kp, F.bindsN (fun _ _ _ _ _ _ us hl => match us, hl with | [_], _ => rfl), F.ok sc_law_g_conductor (fun vs H Q E h => ?_) (fun cdv A outer s H vs Q E hr h => ⟨_, PSs.nox (pss_cons (ps_par3 (i := 1) (j := 2) (l := 3) (by rfl) sc_law_g_conductor.nd rfl rfl rfl (by decide) (by decide) (by decide) rfl rfl rfl (pa_cons (pe_int) (pa_cons (pe_int) (pa_cons (pe_cl (ok_law_g_shares T) hr (by decide) (by rfl) (pa_cons (pv 0) pa_nil)) pa_nil))) (by rfl)) (pss_cons (ps_for PassesOwn.never rfl (pi_range2 (by rfl) (m_range T) (pa_cons (pe_int) (pa_cons (pe_callB (call_lenK (K := K) rfl) (by rfl) (m_len T) boot_len (pa_cons (pv 0) pa_nil)) pa_nil))) (pg_name (i := 4) sc_law_g_conductor.nd rfl (Or.inl rfl)) (pss_cons (ps_par3 (i := 5) (j := 6) (l := 2) (by rfl) sc_law_g_conductor.nd rfl rfl rfl (by decide) (by decide) (by decide) rfl rfl rfl (pa_cons (pe_op op_sub (pe_ix (ix_seqK (K := K) rfl) (pv 0) (pv 4) (fun _ _ => rfl)) (pv 2)) (pa_cons (pe_ix (ix_seqK (K := K) rfl) (pv 3) (pe_op op_sub (pv 4) (pe_int)) (fun _ _ => rfl)) (pa_cons (pe_ix (ix_seqK (K := K) rfl) (pv 0) (pv 4) (fun _ _ => rfl)) pa_nil))) (by rfl)) (pss_one (ps_while PassesOwn.never (pt_cmpR (op_ne) (pv 6) (pe_int) (nomark _)) (pss_cons (ps_set (i := 1) sc_law_g_conductor.nd rfl (Or.inl rfl) (pe_op op_add (pv 1) (pe_op op_mul (pe_op op_mul (pe_op op_fdiv (pe_callTy call_int1 (by rfl) (m_int T) (by decide +kernel) (pa_cons (pv 5) pa_nil)) (pv 6)) (pv 6)) (pe_op op_sub (pv 6) (pe_int))))) (pss_one (ps_par (i := 5) (j := 6) (by rfl) sc_law_g_conductor.nd rfl rfl (by decide) rfl rfl (pa_cons (pv 6) (pa_cons (pe_op op_mod (pe_callTy call_int1 (by rfl) (m_int T) (by decide +kernel) (pa_cons (pv 5) pa_nil)) (pv 6)) pa_nil)) (by rfl)))))))) (pss_one (ps_ret (pv 1))))), ?_⟩)⟩
  · obtain ⟨a, ns, rfl, _⟩ := h; rfl
  · obtain ⟨a, ns, rfl, sq, hok, hpo, hQ⟩ := h
    have ok := okRow_iff hok
    have hl5 := ok.len
    have slen : (shares ns).length = ns.length := shGo_len ns 0
    refine q_par3VVL ev_c ev_c (el_lshares (b := true) (ev_var rfl) sq (by omega) hpo) fun l H1 hl e1 hl1 => ?_
    refine s_forR2 (lo := 1) (n := (ns.length : Int)) (ea2 ev_c (ev_is (ev_lenA (b := true) (ev_var rfl) (ex_t e1 sq)) (by rw [List.length_map]))) ⟨by decide, by decide, by omega, by omega⟩
      (fun i σ' H' => ∃ (x4 x5 x6 : Option V), σ' = [some (.ref a), some (.int (conG ns i)), some (.int (ahd ns i)), some (.ref l), x4, x5, x6] ∧ Ex H1 H')
      (fun H2 e2 => ⟨none, none, none, rfl, e2⟩) (fun i σ' H' hi ⟨x4, x5, x6, es, e⟩ => ?_) (fun σ' H' ⟨x4, x5, x6, es, e⟩ => ?_)
    · subst es
      have hi' : i + 1 < ns.length := by omega
      have ei : (1 : Int) + (i : Int) = ((i + 1 : Nat) : Int) := by omega
      rw [ei]
      have s0 := ok.s0 i (by omega)
      have s1 := ok.s1 i (by omega)
      refine q_par3V (x := .int (sN ns (i + 1) - ahd ns i)) (y := .int (sS ns i)) (z := .int (sN ns (i + 1))) (ev_op (ev_ixA (b := true) (ev_var rfl) (ev_var rfl) (ex_t (e1.trans e) sq) (atI_int hi')) (ev_var rfl) rv_I0) (ev_ixA (b := false) (i := (i : Int)) (ev_var rfl) (ev_is (ev_op (ev_var rfl) ev_c rv_I0) (by congr 1; omega)) (SqB.l (sq_of (e _ _ hl1))) (atI_int (by omega))) (ev_ixA (b := true) (ev_var rfl) (ev_var rfl) (ex_t (e1.trans e) sq) (atI_int hi')) fun H2 e2 => ?_
      refine s_while (fun m σ' H3 => ∃ (t a' c' : Int), σ' = [some (.ref a), some (.int t), some (.int (ahd ns (i + 1))), some (.ref l), some (.int ((i + 1 : Nat) : Int)), some (.int a'), some (.int c')] ∧ 0 ≤ c' ∧ c' < 2 ^ 30 ∧ c'.toNat ≤ m ∧ t + euF m a' c' = conG ns (i + 1) ∧ Ex H1 H3) (sS ns i).toNat ⟨conG ns i, sN ns (i + 1) - ahd ns i, sS ns i, rfl, by omega, s1, Nat.le_refl _, rfl, e.trans e2⟩ ?_
      rintro m σ' H3 ⟨t, a', c', rfl, hc0, hc1, hcm, ht, e3⟩
      refine ⟨!decide (V.int c' = V.int 0), et_test (ev_op (ev_var rfl) ev_c (rv_ne rfl)), fun hy H4 e4 => ?_, fun hn H4 e4 => ?_⟩
      · have hnz : c' ≠ 0 := fun z => by rw [z] at hy; simp at hy
        obtain ⟨f, rfl⟩ : ∃ f, m = f + 1 := ⟨m - 1, by omega⟩
        have hpos : 0 < c' := by omega
        refine ⟨fun σ2 H2 => ∃ m', m' < f + 1 ∧ ∃ (t a2 c2 : Int), σ2 = [some (.ref a), some (.int t), some (.int (ahd ns (i + 1))), some (.ref l), some (.int ((i + 1 : Nat) : Int)), some (.int a2), some (.int c2)] ∧ 0 ≤ c2 ∧ c2 < 2 ^ 30 ∧ c2.toNat ≤ m' ∧ t + euF m' a2 c2 = conG ns (i + 1) ∧ Ex H1 H2, fun σ2 H2 h => h, ?_⟩
        refine q_asg (v := .int (t + a' / c' * c' * (c' - 1))) (ev_op (x := .int t) (y := .int (a' / c' * c' * (c' - 1))) (ev_var rfl) (ev_op (x := .int (a' / c' * c')) (y := .int (c' - 1)) (ev_op (x := .int (a' / c')) (y := .int c') (ev_op (ev_int1 (ev_var rfl)) (ev_var rfl) (rv_I ⟨by omega, by omega⟩)) (ev_var rfl) (rv_I (cmul (.inr ⟨by omega, by omega⟩)))) (ev_op (ev_var rfl) ev_c rv_I0) (rv_I (cmul (.inr ⟨by omega, by omega⟩)))) rv_I0) fun H5 e5 => ?_
        refine s_par (v := .int c') (w := .int (a' % c')) (ea2 (ev_var rfl) (ev_op (ev_int1 (ev_var rfl)) (ev_var rfl) (rv_I hpos))) fun H6 e6 => ?_
        have h1 := Int.emod_nonneg a' hnz
        have h2 := Int.emod_lt_of_pos a' hpos
        refine ⟨f, Nat.lt_succ_self f, _, c', a' % c', rfl, h1, by omega, by omega, ?_, ((e3.trans e4).trans e5).trans e6⟩
        have hu : euF (f + 1) a' c' = a' / c' * c' * (c' - 1) + euF f c' (a' % c') := if_neg hnz
        rw [← ht, hu]
        omega
      · have hz : c' = 0 := by
          by_cases h : c' = 0
          · exact h
          · have : decide (V.int c' = V.int 0) = false := decide_eq_false (fun z => h (by injection z))
            rw [this] at hn; cases hn
        subst hz
        have hz0 : euF m a' 0 = 0 := by
          cases m with
          | zero => rfl
          | succ f => exact if_pos rfl
        rw [hz0, Int.add_zero] at ht
        subst ht
        exact ⟨_, _, _, rfl, e3.trans e4⟩
    · subst es
      have en : ((ns.length : Int) - 1).toNat = ns.length - 1 := by omega
      rw [en]
      exact s_ret (ev_var rfl) fun H2 e2 => hQ H2 ((e1.trans e).trans e2)
/-! _law_t_times -/
theorem ok_law_t_times (T : Wk h0 K mg base) : ClC CX0 PP w K mg base 1 "_law_t_times" ["numbers", "k"] (sp_times_factor K) := by
  obtain ⟨fd, F⟩ := f_law_t_times T
  refine ⟨_, fd, g_law_t_times T, F.kp, F.bindsN (fun _ _ _ _ _ _ us hl => match us, hl with | [_, _], _ => rfl), F.ok sc_law_t_times (fun vs H Q E h => ?_) (fun cdv A outer s H vs Q E hr h => ⟨_, PSs.nox (pss_cons (ps_set (i := 2) sc_law_t_times.nd rfl (Or.inl rfl) (pe_op op_cat (pe_op op_rep (pe_lst (pa_cons (pe_int) pa_nil)) (pv 1)) (pe_callTy call_list_of (by rfl) (m_list T) (by decide +kernel) (pa_cons (pv 0) pa_nil)))) (pss_cons (ps_for PassesOwn.never rfl (pi_enumA (by rfl) (m_enumerate T) (pa_cons (pv 0) pa_nil)) (pg_tup rfl (pgs_cons (pg_name (i := 3) sc_law_t_times.nd rfl (Or.inl rfl)) (pgs_cons (pg_name (i := 4) sc_law_t_times.nd rfl (Or.inl rfl)) pgs_nil))) (pss_one (ps_asg (pe_op op_sub (pe_ix (ix_seqK (K := K) rfl) (pv 2) (pv 3) (fun _ _ => rfl)) (pv 4)) (pg_sub (pv 2) (pv 3) set_list)))) (pss_one (ps_ret (pv 2))))), ?_⟩)⟩
  · obtain ⟨b, a, ns, k, rfl, _⟩ := h; rfl
  · obtain ⟨b, a, ns, k, rfl, sq, hl, hQ⟩ := h
    have hB : (List.replicate k (0 : Int) ++ ns).length = ns.length + k := by rw [List.length_append, List.length_replicate, Nat.add_comm]
    refine q_asgL (xs := (List.replicate k (0 : Int) ++ ns).map V.int) ?_ fun l H1 hl1 e1 h1 => ?_
    · rw [List.map_append, List.map_replicate]
      exact el_catNN (el_rep1 (k := k) (x := .int 0) ev_c (ev_var rfl) (by omega)) (el_listOf (b := b) (ev_var rfl) sq) (by rw [List.length_replicate, List.length_map]; omega)
    refine q_forEn (K := K) (b := b) (a := a) (xs := ns.map V.int) (ea1 (ev_var rfl)) (sq.ex e1) (fun j σ' H' => ∃ (x3 x4 : Option V) (row : List Int), σ' = [some (.ref a), some (.int (k : Int)), some (.ref l), x3, x4] ∧ Ex H H' ∧ H' l = some (.lst (row.map V.int)) ∧ row.length = ns.length + k ∧ ∀ i, i < ns.length + k → row.getD i 0 = (List.replicate k (0 : Int) ++ ns).getD i 0 - (if i < j then ns.getD i 0 else 0))
      (fun H2 e2 => ⟨none, none, _, rfl, e1.trans e2, e2 _ _ h1, hB, fun i _ => by rw [if_neg (Nat.not_lt_zero i), Int.sub_zero]⟩) (fun j σ' H' _ ⟨x3, x4, row, _, e, _⟩ => sq.ex e) (fun j x σ' H' H'' hx ⟨x3, x4, row, es, e, hrow, hrl, hra⟩ e2 => ?_) (fun σ' H' ⟨x3, x4, row, es, e, hrow, hrl, hra⟩ => ?_)
    · subst es
      obtain ⟨n, hn, rfl⟩ := at_ints hx
      have hj : j < ns.length := (List.getElem?_eq_some_iff.mp hn).1
      have en : ns.getD j 0 = n := sN_at hn
      refine s_setL (j := j) (v := .int (row.getD j 0 - n)) (e2 _ _ hrow) (ev_op (ev_ixA (b := false) (ev_var rfl) (ev_var rfl) (SqB.l (sq_of (e2 _ _ hrow))) (atI_n (int_at (by omega)))) (ev_var rfl) rv_I0) (ev_var rfl) (ev_var rfl) (by rw [List.length_map]; omega) fun H3 e3 => ?_
      refine ⟨_, _, row.set j (row.getD j 0 - n), rfl, Ex.mut ((e.trans e2).trans e3) hl1, ?_, by rw [List.length_set]; exact hrl, fun i hi => ?_⟩
      · rw [List.map_set]
        exact upd_same
      · rw [getD_set (by omega)]
        by_cases h : i = j
        · subst h
          rw [if_pos rfl, if_pos (Nat.lt_succ_self i), hra i hi, if_neg (Nat.lt_irrefl i), Int.sub_zero, en]
        · rw [if_neg h, hra i hi]
          by_cases h2 : i < j
          · rw [if_pos h2, if_pos (by omega)]
          · rw [if_neg h2, if_neg (by omega)]
    · subst es
      refine s_ret (ev_var rfl) fun H2 e2 => hQ l H2 hl1 (e.trans e2) ?_
      have : row = tfL ns k := ext0 (by rw [hrl, tfL_len]) fun i hi => by
        rw [hra i (by omega)]
        unfold tfL
        rw [subPad_at _ _ _ (by omega), List.length_map]
        by_cases h : i < ns.length
        · rw [if_pos h]
        · rw [if_neg h, getD_out (l := ns) (by omega)]
      rw [← this]
      exact e2 _ _ hrow
/-! _law_t_knot -/
theorem s_parP {σ : L2.St} {H : Hp} {te tx : TE} {D : Ends} {i j : Nat} {P : V → Hp → Prop} {v : V} (m : MonP P) (h : EvP te σ H P) (h2 : Ev tx σ H v) (k : ∀ u H1, Ex H H1 → P u H1 → D.nx ((σ.set i (some u)).set j (some v)) H1) : tPar i j (tCons te (tCons tx tNil)) D σ H :=
  h H (Ex.refl H) _ fun u H1 e hu => h2 H1 e _ fun H2 e2 => ⟨u, v, rfl, k u H2 (e.trans e2) (m _ _ _ e2 hu)⟩
theorem ok_law_t_knot (T : Wk h0 K mg base) : ClC CX0 PP w K mg base 4 "_law_t_knot" ["row"] (fun vs H Q E => ∃ (a : Addr) (ns : List Int), vs = [.ref a] ∧ SqT K H a (ns.map V.int) ∧ okRow ns = true ∧ posR ns = true ∧ knB (cabOf ns).reverse 1 = true ∧ ∀ v H', Ex H H' → Dp K H' v (cabD false (knF (cabOf ns).reverse 1)) → Q v H') := by
  obtain ⟨fd, F⟩ := f_law_t_knot T
  refine ⟨_, fd, g_law_t_knot T, F.kp, F.bindsN (fun _ _ _ _ _ _ us hl => match us, hl with | [_], _ => rfl), F.ok sc_law_t_knot (fun vs H Q E h => ?_) (fun cdv A outer s H vs Q E hr h => ⟨_, PSs.nox (pss_cons (ps_par (i := 1) (j := 2) (by rfl) sc_law_t_knot.nd rfl rfl (by decide) rfl rfl (pa_cons (pe_lst pa_nil) (pa_cons (pe_int) pa_nil)) (by rfl)) (pss_cons (ps_for PassesOwn.never rfl (pi_any (pe_revA (pe_cl (ok_law_t_cable T) hr (by decide) (by rfl) (pa_cons (pv 0) pa_nil)))) (pg_tup rfl (pgs_cons (pg_name (i := 3) sc_law_t_knot.nd rfl (Or.inl rfl)) (pgs_cons (pg_name (i := 4) sc_law_t_knot.nd rfl (Or.inl rfl)) pgs_nil))) (pss_one (ps_par (i := 1) (j := 2) (by rfl) sc_law_t_knot.nd rfl rfl (by decide) rfl rfl (pa_cons (pe_op op_cat (pv 1) (pe_lst (pa_cons (pe_tup (pa_cons (pe_op op_mul (pe_op op_mul (pv 3) (pv 4)) (pv 2)) (pa_cons (pe_int) pa_nil))) (pa_cons (pe_tup (pa_cons (pv 2) (pa_cons (pe_int) pa_nil))) (pa_cons (pe_tup (pa_cons (pe_op op_mul (pv 3) (pv 2)) (pa_cons (pe_un un_neg (pe_int)) pa_nil))) (pa_cons (pe_tup (pa_cons (pe_op op_mul (pv 4) (pv 2)) (pa_cons (pe_un un_neg (pe_int)) pa_nil))) pa_nil)))))) (pa_cons (pe_op op_mul (pv 2) (pv 3)) pa_nil)) (by rfl)))) (pss_one (ps_ret (pv 1))))), ?_⟩)⟩
  · obtain ⟨a, ns, rfl, _⟩ := h; rfl
  · obtain ⟨a, ns, rfl, sq, hok, hpo, hk, hQ⟩ := h
    have cl : (cabOf ns).length ≤ 5 := by
      have := (okRow_iff hok).len
      unfold cabOf
      rw [cabUp_len]
      omega
    generalize hC : cabOf ns = C at *
    refine q_parL (el_lst ea_nil (by decide)) ev_c fun l H1 hl1 e1 h1 => ?_
    refine q_forRevP (K := K) (ps := C) (ep_call (ea1 (ev_var rfl)) fun H2 e2 Q q E => ⟨a, ns, rfl, ex_t (e1.trans e2) sq, hok, hpo, fun v H3 e3 hv => q v H3 e3 (hC ▸ hv)⟩) (fun G i σ' H' => ∃ (v : V) (x3 x4 : Option V) (ds : PL) (e0 : Int), σ' = [some (.ref a), some v, some (.int e0), x3, x4] ∧ Ex G H' ∧ LsD K (ds.map prD) v H' ∧ ds.length = 4 * i ∧ knF C.reverse 1 = ds ++ knF (C.reverse.drop i) e0 ∧ knB (C.reverse.drop i) e0 = true)
      (fun G e2 => ⟨.ref l, none, none, [], 1, rfl, Ex.refl G, ⟨l, [], rfl, e2 _ _ h1, .nil⟩, rfl, rfl, hk⟩) (fun G i σ' H' ⟨_, _, _, _, _, _, e, _⟩ => e) (fun G i c p σ' H' hp hc ⟨v, x3, x4, ds, e0, es, e, hv, hdl, hF, hB⟩ => ?_) (fun G σ' H' e2 ⟨v, x3, x4, ds, e0, es, e, hv, hdl, hF, hB⟩ => ?_)
    · subst es
      obtain ⟨p, b⟩ := p
      have hi : i < C.length := by have := (List.getElem?_eq_some_iff.mp hp).1; rw [List.length_reverse] at this; exact this
      rw [drop_p hp] at hF hB
      obtain ⟨hb1, hb2⟩ := ba hB
      obtain ⟨hp1, hb1⟩ := ba hb1
      obtain ⟨ha1, he1⟩ := ba hb1
      have hp1 := of_decide_eq_true hp1
      have ha1 := of_decide_eq_true ha1
      have he1 := of_decide_eq_true he1
      refine ⟨c, _, rfl, hc, rfl, _, _, rfl, _, _, rfl, rfl, ?_⟩
      have small : ∀ {x y : Int}, 0 < x ∧ x < 2 ^ 20 → 0 < y ∧ y < 2 ^ 20 → CMul x y := fun h1 h2 => cmul (.inl ⟨by omega, by omega⟩)
      refine s_parP (P := LsD K ((ds ++ [(p * b * e0, 1), (e0, 1), (p * e0, -1), (b * e0, -1)]).map prD)) (v := .int (e0 * p)) monLs ?_ (ev_op (ev_var rfl) (ev_var rfl) (rv_I (small he1 hp1))) fun u H2 e3 hu => ⟨u, _, _, ds ++ [(p * b * e0, 1), (e0, 1), (p * e0, -1), (b * e0, -1)], e0 * p, rfl, e.trans e3, hu, by rw [List.length_append, hdl]; show 4 * i + 4 = 4 * (i + 1); omega, ?_, hb2⟩
      · rw [List.map_append]
        refine ep_catD ((Ev.p (ev_var rfl)).imp fun u H2 e2 eu => eu ▸ monLs _ _ _ e2 hv) (ep_lsD (ds := [prD (p * b * e0, 1), prD (e0, 1), prD (p * e0, -1), prD (b * e0, -1)]) ?_ (by show 4 ≤ 100000; decide)) (by rw [List.length_map, hdl]; show 4 * i + 4 ≤ 100000; omega)
        refine ead_cons (ep_pr (ev_op (x := .int (p * b)) (y := .int e0) (ev_op (ev_var rfl) (ev_var rfl) (rv_I (small hp1 ha1))) (ev_var rfl) (rv_I (cmul (.inr ⟨by omega, by omega⟩)))) ev_c) (ead_cons (ep_pr (ev_var rfl) ev_c) (ead_cons (ep_pr (ev_op (ev_var rfl) (ev_var rfl) (rv_I (small hp1 he1))) (ev_un ev_c ru_neg)) (ead_cons (ep_pr (ev_op (ev_var rfl) (ev_var rfl) (rv_I (small ha1 he1))) (ev_un ev_c ru_neg)) ead_nil)))
      · rw [hF, List.append_assoc]
        rfl
    · subst es
      have hdl0 : C.reverse.drop C.length = [] := List.drop_eq_nil_of_le (by rw [List.length_reverse]; exact Nat.le_refl _)
      rw [hdl0] at hF
      have hF : knF C.reverse 1 = ds := hF.trans (List.append_nil _)
      refine s_ret (ev_var rfl) fun H2 e3 => hQ v H2 ((e1.trans (e2.trans e)).trans e3) ?_
      rw [hF]
      exact (monLs _ _ _ e3 hv).dp
end
end K42
set_option maxHeartbeats 2000000
/-! != of two lists whose items are all equal by an own __eq__; list.count of bools. -/
namespace GQ
open PySem PySem.SeqAt
open AutoSeq1 (wpAny_loadPart')
open MeetsSeq MeetsSeq2 MeetsSeq3 SeqRoads2
section
variable {prog : Program} {w : World} {A : Around} {R : Result → Shared → Prop}
theorem ne_loopG (l b : Addr) (N : Nat) (I : Nat → Shared → Prop) (hl : ListI prog w A (fun e s' => R (.error e) s') l b N I)
    (fin : ∀ s, I N s → R (.ok (.ret (.bool false))) s) (k : Nat) :
    ∀ i : Nat, N - i = k → i ≤ N → ∀ s, I i s →
      wpAny (model prog w) A.in1 (Builtin.«list.__eq__.loop» ⟨[.ref l, .ref b, rawInt i, rawInt 3], []⟩) (FinOf prog w A R) (fun e s' => R (.error e) s') s := by
  induction k with
  | zero =>
    intro i hk hi s h
    obtain ⟨items, items2, n, n2, hl1, hb1, hs1, hs2, _⟩ := hl _ _ h
    have hi' : i = N := by omega
    have hR : R (.ok (.ret (.bool false))) s := fin s (hi' ▸ h)
    obtain ⟨hp, g, d, tk, os⟩ := s
    wp_walk using wpAny_loadPart' hl1, wpAny_loadPart' hb1
    have hi1 : items[((i : Nat) : Int).toNat]? = none := by simp; omega
    have hi2 : items2[((i : Nat) : Int).toNat]? = none := by simp; omega
    rw [hi1, hi2]
    wp_walk using wpAny_loadPart' hl1, wpAny_loadPart' hb1
    show R (.ok (.ret (.bool (items.size != items2.size)))) _
    rw [hs1, hs2]
    simpa using hR
  | succ k ih =>
    intro i hk hi s h
    obtain ⟨items, items2, n, n2, hl1, hb1, hs1, hs2, turn⟩ := hl _ _ h
    have hlt : i < items.size := by omega
    have hlt2 : i < items2.size := by omega
    have ht := turn hlt hlt2
    obtain ⟨hp, g, d, tk, os⟩ := s
    wp_walk using wpAny_loadPart' hl1, wpAny_loadPart' hb1
    have hi1 : items[((i : Nat) : Int).toNat]? = some items[i] := by simp [hlt]
    have hi2 : items2[((i : Nat) : Int).toNat]? = some items2[i] := by simp [hlt2]
    have hc : ((i : Int) + 1) = ((i + 1 : Nat) : Int) := by omega
    rw [hi1, hi2]
    refine wpAny_bind (wpAny_mono ht (fun r s2 h2 => ?_) fun _ _ x => x)
    obtain ⟨hr, h2⟩ := h2
    subst hr
    have hrec := ih (i + 1) (by omega) (by omega) s2 h2
    obtain ⟨hp2, g2, d2, tk2, os2⟩ := s2
    wp_walk
    rw [hc]
    exact ⟨plainId_quiet plain_eq_loop _, codeAny_builtin entry_eq_loop (by
      rw [Around.under_plainId plain_eq_loop _]
      exact hrec)⟩
theorem list_neG (l b : Addr) (N : Nat) (I : Nat → Shared → Prop) (hl : ListI prog w A (fun e s' => R (.error e) s') l b N I)
    (fin : ∀ s, I N s → R (.ok (.ret (.bool false))) s) {s : Shared} (h : I 0 s) :
    wpAny (model prog w) A.in1 (Builtin.«list.__ne__» ⟨[.ref l, .ref b], []⟩) (FinOf prog w A R) (fun e s' => R (.error e) s') s := by
  obtain ⟨items, items2, n, n2, hl1, hb1, hs1, hs2, _⟩ := hl _ _ h
  have hrec := ne_loopG (A := A) (R := R) l b N I hl fin _ 0 rfl (Nat.zero_le _) s h
  obtain ⟨hp, g, d, tk, os⟩ := s
  have f3 := AutoSeq1.sub_list_list
  have hne : ¬ (items.size != items2.size) = true := by simp [hs1, hs2]
  wp_walk using wpAny_loadPart' hl1, wpAny_loadPart' hb1
  exact ⟨plainId_quiet plain_eq_loop _, codeAny_builtin entry_eq_loop (by
    rw [Around.under_plainId plain_eq_loop _]
    exact hrec)⟩
end
section
variable {prog : Program} {w : World} {A : Around} {E : Value → Shared → Prop} {s : Shared}
theorem rc_listNeG {l b : Addr} {N : Nat} {Q : Value → Shared → Prop} (hu : A.units < cLine) (I : Nat → Shared → Prop) (hl : ListI prog w A E l b N I)
    (fin : ∀ s, I N s → Q (.bool false) s) (h : I 0 s) : wpAny (model prog w) A (richCompare .NotEq (.ref l) (.ref b)) Q E s := by
  obtain ⟨items, items2, n, n2, hl1, hb1, _, _, _⟩ := hl _ _ h
  refine wpAny_richCompare_same_room (op := .NotEq) ⟨_, hl1, rfl⟩ ⟨_, hb1, rfl⟩ F.slot_list_ne (call_here F.slot_list_ne ⟨_, hl1, rfl⟩ F.entry_list_ne (F.args_list_ne_2 _ _) ?_) hu
  exact list_neG (R := wants (fun v s' => v ≠ .notImplemented ∧ Q v s') E) l b N I hl (fun s' q => ⟨(fun x => nomatch x), fin s' q⟩) h
end
end GQ
namespace TC
open PySem PySem.Spec PyProof.Rows L2
section
variable {X : Cx} {n : Nat} {D : Eqv}
def rNeL (D : Eqv) : R2 := fun x y H Q => DList D x y H ∧ ∀ H', L2.Ext H H' → Q (.bl false) H'
theorem op_neL (hD : Mon D) (h : EqG X n D) (hr : Room (n + 1) X.A) : OpR X (compareOp .NotEq) (rNeL D) := by
  intro pins s σ H x y v u Q I rx ry hq
  obtain ⟨⟨a, b, xs, ys, rfl, rfl, ha, hb, p⟩, q⟩ := hq
  cases rx
  cases ry
  have sb : Sub X (n + 1) X.A := ⟨hr, rfl⟩
  show wpAny (model X.prog X.w) X.A (richCompare .NotEq _ _) (EP X pins σ Q) X.xe s
  refine GQ.rc_listNeG (N := xs.length) sb.room.units0 (fun _ s' => LoopI X pins σ H s') (fun i s' q => ?_) (fun s' z => ?_) ⟨H, I, L2.Ext.rfl'⟩
  · obtain ⟨H1, I1, e1⟩ := id q
    obtain ⟨z, its, k, r, e⟩ := I1.hok a _ (e1 _ _ ha)
    obtain ⟨z2, its2, k2, r2, e2⟩ := I1.hok b _ (e1 _ _ hb)
    refine ⟨its.toArray, its2.toArray, k, k2, e, e2, by rw [List.size_toArray, ← r.length], by rw [List.size_toArray, ← r2.length, ← p.1], fun h1 h2 => ?_⟩
    exact turnG hD h sb p r r2 i h1 h2 s' q
  · obtain ⟨H', I', e'⟩ := z
    exact ⟨.bl false, H', I', rfl, q H' e'⟩
end
/-! list.count of bools -/
def eqb (k : Bool) : Value → Bool
  | .bool b => b == k
  | _ => false
theorem bools_of_vals : ∀ {bs : List Bool} {us : List Value}, Vals (bs.map V.bl) us → us = bs.map Value.bool
  | [], _, h => by cases h; rfl
  | b :: bs, _, h => by
    cases h with
    | cons a r =>
      cases a
      rw [bools_of_vals r]
      rfl
theorem eqb_count (k : Bool) : ∀ bs : List Bool, (bs.map Value.bool).countP (eqb k) = bs.count k
  | [] => rfl
  | b :: bs => by
    have ih := eqb_count k bs
    rw [List.map_cons, List.countP_cons, List.count_cons, ih]
    rfl
section
variable {X : Cx}
def rCntB (K : PySem.W.Frag) : V → List V → Hp → VK → Prop := fun x xs H Q => ∃ (p : Addr) (bs : List Bool) (k : Bool), x = .ref p ∧ xs = [.bl k] ∧ SqL K H p (bs.map V.bl) ∧ Q (.int (bs.count k : Nat)) H
theorem mt_lcountB : MtR X "list.count" (rCntB X.K) := by
  intro pins s σ H x xs v us Q I rx rxs h
  obtain ⟨p, bs, k, rfl, rfl, hs, q⟩ := h
  cases rx
  obtain ⟨u, rfl, ru⟩ := rxs.one
  cases ru
  obtain ⟨its, rv, ⟨⟨cls, dd, data, sl⟩, n, ho, hc, hdn, hd⟩, hlen⟩ := I.list hs
  simp only at hc hd
  subst hc hd
  have hi := bools_of_vals rv
  subst hi
  refine call_meets PySem.F.slot_list_count ⟨_, ho, rfl⟩ PySem.F.entry_list_count (PySem.F.args_list_count_2 _ _)
    (SeqAt.list_countAt p (bs.map Value.bool).toArray n dd sl (.bool k) (eqb k)) ⟨ho, fun y hy => ?_, ?_⟩
  · obtain ⟨b, _, rfl⟩ := List.mem_map.mp (show y ∈ bs.map Value.bool from by simpa only [List.mem_toArray] using hy)
    exact SeqAt.EqAt.bool_bool b k
  have ec : (bs.map Value.bool).toArray.toList.countP (eqb k) = bs.count k := eqb_count k bs
  refine ⟨.int (bs.count k : Nat), H, I.tok _, ⟨s.toks, ?_⟩, q⟩
  show Value.int (((bs.map Value.bool).toArray.toList.countP (eqb k) : Nat) : Int) s.toks = Value.int ((bs.count k : Nat) : Int) s.toks
  rw [ec]
end
section
variable {K : PySem.W.Frag} {σ : L2.St} {H : Hp} {ta tb te tx : TE} {D : Eqv}
open Evl
theorem pe_fldK {X : Cx} {K : PySem.W.Frag} {e : Expr} {ta : TE} {f : Str} {pos : Pos} (h : X.K = K) (he : PE X e ta) (hb : attributeBase e f X.env (eval e X.env) = eval e X.env) : PE X (.Attribute e f pos) (tFld K ta f) := by subst h; exact pe_fld he hb
theorem mt_lcountBK {X : Cx} {K : PySem.W.Frag} (h : X.K = K) : MtR X "list.count" (rCntB K) := by subst h; exact mt_lcountB
end
end TC
set_option maxHeartbeats 0
/-! The law's helpers: generators, orders, products told. -/
namespace K42
open PySem PySem.Spec PyProof.Rows L2 He TC Evl
--FLDK
section
variable {w : World} {h0 base : Heap} {K : PySem.W.Frag} {mg : Str → Option Value}
def gdB (ns : List Int) : Bool := (List.range ns.length).all fun i => decide ((gF ns (i + 1) * sS ns i).fdiv (sS ns (i + 1)) = gF ns (i + 1) * (sS ns i).fdiv (sS ns (i + 1)))
def sp_law_generators (K : PySem.W.Frag) : Sp := fun vs H Q _ => ∃ (a : Addr) (n : Nat) (rest : List Nat), vs = [.ref a] ∧ SqT K H a ((iN (n :: rest)).map V.int) ∧ RowB n rest ∧ gdB (iN (n :: rest)) = true ∧ posR (iN (n :: rest)) = true ∧ RetL ((iN (gens n rest)).map V.int) H Q
theorem ok_law_generators (T : Wk h0 K mg base) : ClC CX0 PP w K mg base 3 "_law_generators" ["row"] (sp_law_generators K) := by
  obtain ⟨fd, F⟩ := f_law_generators T
  refine ⟨_, fd, g_law_generators T, F.kp, F.bindsN (fun _ _ _ _ _ _ us hl => match us, hl with | [_], _ => rfl), F.ok sc_law_generators (fun vs H Q E h => ?_) (fun cdv A outer s H vs Q E hr h => ⟨_, PSs.nox (pss_cons (ps_par (i := 1) (j := 2) (by rfl) sc_law_generators.nd rfl rfl (by decide) rfl rfl (pa_cons (pe_cl (ok_law_g_shares T) hr (by decide) (by rfl) (pa_cons (pv 0) pa_nil)) (pa_cons (pe_callTy call_list_of (by rfl) (m_list T) (by decide +kernel) (pa_cons (pe_slice sl_tupA (pv 0) po_none (po_some (pe_int))) pa_nil)) pa_nil)) (by rfl)) (pss_cons (ps_for PassesOwn.never rfl (pi_range2 (by rfl) (m_range T) (pa_cons (pe_int) (pa_cons (pe_op op_sub (pe_callB (call_lenK (K := K) rfl) (by rfl) (m_len T) boot_len (pa_cons (pv 0) pa_nil)) (pe_int)) pa_nil))) (pg_name (i := 3) sc_law_generators.nd rfl (Or.inl rfl)) (pss_one (ps_expr (pe_bm PySem.F.plainAttrs_list PySem.F.slot_list_append PySem.F.type_list_append mt_append (pv 2) (pa_cons (pe_op op_sub (pe_op op_add (pe_op op_fdivN (pe_op op_mul (pe_ix (ix_seqK (K := K) rfl) (pv 2) (pv 3) (fun _ _ => rfl)) (pe_callTy call_int1 (by rfl) (m_int T) (by decide +kernel) (pa_cons (pe_ix (ix_seqK (K := K) rfl) (pv 1) (pe_op op_sub (pv 3) (pe_int)) (fun _ _ => rfl)) pa_nil))) (pe_ix (ix_seqK (K := K) rfl) (pv 1) (pv 3) (fun _ _ => rfl))) (pe_ix (ix_seqK (K := K) rfl) (pv 0) (pe_op op_add (pv 3) (pe_int)) (fun _ _ => rfl))) (pe_ix (ix_seqK (K := K) rfl) (pv 0) (pv 3) (fun _ _ => rfl))) pa_nil))))) (pss_one (ps_ret (pv 2))))), ?_⟩)⟩
  · obtain ⟨a, n, rest, rfl, _⟩ := h; rfl
  · obtain ⟨a, n, rest, rfl, sq, R, hgd, hpo, hQ⟩ := h
    have ok := R.gen
    rw [← R.genOf] at hQ
    generalize iN (n :: rest) = ns at *
    have hl5 := ok.len
    refine q_parLL (el_lshares (b := true) (ev_var rfl) sq (by omega) hpo) (el_listP (ep_slA (ev_var rfl) eo_none (eo_some ev_c) sq)) fun l f H1 hl hf e1 hl1 hf1 => ?_
    rw [cut2] at hf1
    have slen : (shares ns).length = ns.length := shGo_len ns 0
    refine q_forR2 (lo := 1) (n := (ns.length : Int) - 1) (ea2 ev_c (ev_op (ev_is (ev_lenA (b := true) (ev_var rfl) (ex_t e1 sq)) (by rw [List.length_map])) ev_c rv_I0)) ⟨by decide, by decide, by omega, by omega⟩
      (fun i σ' H' => ∃ (x3 : Option V), σ' = [some (.ref a), some (.ref l), some (.ref f), x3] ∧ Ex H H' ∧ H' l = some (.lst ((shares ns).map V.int)) ∧ H' f = some (.lst ((genUp ns (min 2 ns.length + i)).map V.int)))
      (fun H2 e2 => ⟨none, rfl, e1.trans e2, e2 l _ hl1, e2 f _ hf1⟩) (fun i σ' H' hi ⟨x3, es, e, hl2, hf2⟩ => ?_) (fun σ' H' ⟨x3, es, e, hl2, hf2⟩ => ?_)
    · subst es
      have hi' : i + 2 < ns.length := by omega
      have ei : (1 : Int) + (i : Int) = ((i + 1 : Nat) : Int) := by omega
      rw [ei]
      have em : min 2 ns.length + i = i + 2 := by omega
      rw [em] at hf2
      have shi : ∀ {σ : L2.St} {te ti : TE} {H2 : Hp} {i : Nat}, Ex H' H2 → i < ns.length → Ev te σ H2 (.ref l) → Ev ti σ H2 (.int (i : Int)) → Ev (tOp (rIxA K) te ti) σ H2 (.int (sS ns i)) := fun {σ te ti H' i} e hi h h2 => ev_ixA h h2 (SqB.l (sq_of (e l _ hl2))) (atI_int (by omega))
      have rwi : ∀ {σ : L2.St} {te ti : TE} {H2 : Hp} {i : Nat}, Ex H H2 → i < ns.length → Ev te σ H2 (.ref a) → Ev ti σ H2 (.int (i : Int)) → Ev (tOp (rIxA K) te ti) σ H2 (.int (sN ns i)) := fun {σ te ti H' i} e hi h h2 => ev_ixA (b := true) h h2 (ex_t e sq) (atI_int hi)
      have s0 := ok.s0 (i + 1) (by omega)
      have s1 := ok.s1 (i + 1) (by omega)
      have s0' := ok.s0 i (by omega)
      have s1' := ok.s1 i (by omega)
      have g1 := ok.g (i + 1) (by omega)
      have hdv : (gF ns (i + 1) * sS ns i).fdiv (sS ns (i + 1)) = gF ns (i + 1) * (sS ns i).fdiv (sS ns (i + 1)) := of_decide_eq_true (List.all_eq_true.mp hgd i (List.mem_range.mpr (by omega)))
      have hlf : l ≠ f := fun z => by
        have h1 := hl1; have h2 := hf1
        rw [z, h2] at h1
        have h3 := congrArg (fun o : Option HO => match o with | some (.lst ys) => ys.length | _ => 0) h1
        simp [genUp_len] at h3
        omega
      refine s_app (v := .int (gF ns (i + 2))) hf2 (ev_var rfl) (ev_op (x := .int (gF ns (i + 1) * (sS ns i).fdiv (sS ns (i + 1)) + sN ns (i + 2))) (y := .int (sN ns (i + 1))) (ev_op (x := .int (gF ns (i + 1) * (sS ns i).fdiv (sS ns (i + 1)))) (y := .int (sN ns (i + 2)))
        (ev_is (ev_op (x := .int (gF ns (i + 1) * sS ns i)) (y := .int (sS ns (i + 1))) (ev_op (x := .int (gF ns (i + 1))) (y := .int (sS ns i)) (ev_ixA (b := false) (i := ((i + 1 : Nat) : Int)) (ev_var rfl) (ev_var rfl) (SqB.l (sq_of hf2)) (atI_n ?_)) (ev_int1 (shi (i := i) (Ex.refl _) (by omega) (ev_var rfl) (ev_is (ev_op (ev_var rfl) ev_c rv_I0) (by congr 1; omega)))) (rv_I (cmul (.inr ⟨by omega, by omega⟩)))) (shi (i := i + 1) (Ex.refl _) (by omega) (ev_var rfl) (ev_var rfl)) (rv_I ⟨by omega, by omega⟩)) (by rw [hdv]))
        (rwi (i := i + 2) e hi' (ev_var rfl) (ev_is (ev_op (ev_var rfl) ev_c rv_I0) (by congr 1))) rv_I0) (rwi (i := i + 1) e (by omega) (ev_var rfl) (ev_var rfl)) rv_I0) (by rw [List.length_map, genUp_len]; omega) fun H2 e2 => ?_
      · rw [List.getElem?_map]
        unfold genUp
        rw [List.getElem?_map]
        have : (List.range (i + 2))[i + 1]? = some (i + 1) := by simp
        rw [this]
        rfl
      · refine ⟨_, rfl, Ex.mut (e.trans e2) hf, by rw [upd_ne hlf]; exact e2 l _ hl2, ?_⟩
        have em2 : min 2 ns.length + (i + 1) = i + 2 + 1 := by omega
        have eg := genUp_succ ns (i + 2)
        rw [em2, eg, List.map_append]
        exact upd_same
    · subst es
      have en : min 2 ns.length + ((ns.length : Int) - 1 - 1).toNat = ns.length := by have := ok.pos; omega
      rw [en] at hf2
      exact s_ret (ev_var rfl) fun H2 e2 => hQ f H2 hf (e.trans e2) (e2 f _ hf2)
/-! _law_orders -/
theorem s_forLf {σ : L2.St} {H : Hp} {tl : TE} {tu : TS} {g : TG} {D : Ends} {xs : List V} (h : EvL tl σ H xs) (Pv : Addr → Nat → L2.St → Hp → Prop) (h0 : ∀ p G, H p = none → Ex H G → G p = some (.lst xs) → Pv p 0 σ G) (hl : ∀ p i σ' H', Pv p i σ' H' → H' p = some (.lst xs))
    (hs : ∀ p i x σ' H', xs[i]? = some x → Pv p i σ' H' → g x σ' H' fun σ2 H2 => tu { D with nx := Pv p (i + 1), ct := Pv p (i + 1), bk := D.nx } σ2 H2) (hd : ∀ p σ' H', Pv p xs.length σ' H' → D.nx σ' H') : tFor (iAny K tl) g tu D σ H :=
  h H (Ex.refl H) _ fun p H1 hp e h1 => ⟨false, p, rfl, ⟨xs, SqB.l (sq_of h1)⟩, for_it walk_B (Pv p) (h0 p H1 hp e h1) (fun i σ' H' hi q => SqB.l (sq_of (hl _ _ _ _ q))) (fun i x σ' H' H'' _ q y => by
    obtain ⟨rfl, y2⟩ := y
    exact hs p i x σ' H'' y2 q) fun σ' H' q => hd p σ' H' q⟩
theorem bl_at {l : List Bool} {k : Nat} (h : k < l.length) : (l.map V.bl)[k]? = some (.bl (l.getD k false)) := by
  rw [List.getElem?_map, List.getD_eq_getElem?_getD, List.getElem?_eq_getElem h]
  rfl
def sp_law_orders (K : PySem.W.Frag) : Sp := fun vs H Q _ => ∃ (a : Addr) (n : Nat) (rest : List Nat) (m : Nat), vs = [.ref a, .int (m : Int)] ∧ SqT K H a ((iN (n :: rest)).map V.int) ∧ RowB n rest ∧ gdB (iN (n :: rest)) = true ∧ posR (iN (n :: rest)) = true ∧ m ≤ 1000 ∧ RetL ((htab (gens n rest) m).map V.bl) H Q
theorem ok_law_orders (T : Wk h0 K mg base) : ClC CX0 PP w K mg base 4 "_law_orders" ["row", "most"] (sp_law_orders K) := by
  obtain ⟨fd, F⟩ := f_law_orders T
  refine ⟨_, fd, g_law_orders T, F.kp, F.bindsN (fun _ _ _ _ _ _ us hl => match us, hl with | [_, _], _ => rfl), F.ok sc_law_orders (fun vs H Q E h => ?_) (fun cdv A outer s H vs Q E hr h => ⟨_, PSs.nox (pss_cons (ps_set (i := 2) sc_law_orders.nd rfl (Or.inl rfl) (pe_op op_cat (pe_lst (pa_cons (pe_bl) pa_nil)) (pe_op op_rep (pe_lst (pa_cons (pe_bl) pa_nil)) (pv 1)))) (pss_cons (ps_for PassesOwn.never rfl (pi_range2 (by rfl) (m_range T) (pa_cons (pe_int) (pa_cons (pe_op op_add (pv 1) (pe_int)) pa_nil))) (pg_name (i := 3) sc_law_orders.nd rfl (Or.inl rfl)) (pss_one (ps_for PassesOwn.never rfl (pi_any (pe_cl (ok_law_generators T) hr (by decide) (by rfl) (pa_cons (pv 0) pa_nil))) (pg_name (i := 4) sc_law_orders.nd rfl (Or.inl rfl)) (pss_one (ps_if (PW.pt (pw_and (pt_cmpR (op_le) (pv 4) (pv 3) (nomark _)) (pw_and1 (pt_val (pe_ix (ix_seqK (K := K) rfl) (pv 2) (pe_op op_sub (pv 3) (pv 4)) (fun _ _ => rfl)))))) (pss_one (ps_asg (pe_bl) (pg_sub (pv 2) (pv 3) set_list))) pss_nil))))) (pss_one (ps_ret (pv 2))))), ?_⟩)⟩
  · obtain ⟨a, n, rest, m, rfl, _⟩ := h; rfl
  · obtain ⟨a, n, rest, m, rfl, sq, R, hgd, hpo, hm, hQ⟩ := h
    have hg : ∀ g ∈ gens n rest, 0 < g := fun g hg => by
      unfold gens at hg
      obtain ⟨i, hi, rfl⟩ := List.mem_map.mp hg
      exact R.row.vpos i (by have := List.mem_range.mp hi; omega)
    have hel : ∀ {σ : L2.St} {H' : Hp}, Ex H H' → σ[0]? = some (some (.ref a)) → EvL (tCall (sp_law_generators K) [] E0 (tCons (tVar 0) tNil)) σ H' ((iN (gens n rest)).map V.int) := fun {σ H'} e h0 H1 e1 Q q =>
      (ev_var (σ := σ) (H := H') h0) H1 e1 _ fun H2 e2 => ⟨a, n, rest, rfl, ex_t ((e.trans e1).trans e2) sq, R, hgd, hpo, fun p H3 hp e3 h3 => q p H3 (fresh_back e2 hp) (e2.trans e3) h3⟩
    generalize gens n rest = gs at *
    refine q_asgL (xs := (true :: List.replicate m false).map V.bl) ?_ fun l H1 hl1 e1 h1 => ?_
    · have h := el_catNN (el_lst (vs := [V.bl true]) (σ := [some (.ref a), some (.int (m : Int)), none, none, none]) (H := H) (ea1 ev_c) (by show (1 : Nat) ≤ 100000; decide)) (el_rep1 (k := m) (x := .bl false) ev_c (ev_var (i := 1) rfl) (by omega)) (by rw [List.length_replicate]; show 1 + m ≤ 100000; omega)
      rw [List.map_cons, List.map_replicate]
      exact h
    refine q_forR2 (lo := 1) (n := ((m + 1 : Nat) : Int)) (ea2 ev_c (ev_is (ev_op (ev_var rfl) ev_c rv_I0) (by congr 1))) ⟨by decide, by decide, by omega, by omega⟩
        (fun i σ' H' => ∃ (x3 x4 : Option V), σ' = [some (.ref a), some (.int (m : Int)), some (.ref l), x3, x4] ∧ Ex H H' ∧ H' l = some (.lst ((htab gs i ++ List.replicate (m - i) false).map V.bl)))
        (fun H2 e2 => ⟨none, none, rfl, e1.trans e2, e2 _ _ h1⟩) (fun i σ' H' hi ⟨x3, x4, es, E1, hb⟩ => ?_) (fun σ' H' ⟨x3, x4, es, E1, hb⟩ => ?_)
    · subst es
      have hi' : i < m := by omega
      have ei : (1 : Int) + (i : Int) = ((i + 1 : Nat) : Int) := by omega
      rw [ei]
      obtain ⟨r, hr'⟩ : ∃ r, m - i = r + 1 := ⟨m - i - 1, by omega⟩
      have hm2 : m - (i + 1) = r := by omega
      rw [hr', List.replicate_succ] at hb
      have hb' : ∀ b : Bool, (htab gs i ++ b :: List.replicate r false).length = m + 1 := fun b => by rw [List.length_append, htab_len, List.length_cons, List.length_replicate]; omega
      refine s_forLf (hel E1 rfl) (fun p j σ' H2 => ∃ (x4 : Option V), σ' = [some (.ref a), some (.int (m : Int)), some (.ref l), some (.int ((i + 1 : Nat) : Int)), x4] ∧ Ex H H2 ∧ H2 p = some (.lst ((iN gs).map V.int)) ∧ p ≠ l ∧ H2 l = some (.lst ((htab gs i ++ ((gs.take j).any fun g => decide (g ≤ i + 1) && (htab gs i).getD (i + 1 - g) false) :: List.replicate r false).map V.bl)))
        (fun p G hp e hpG => ⟨x4, rfl, E1.trans e, hpG, (fun z => by rw [z, hb] at hp; cases hp), e _ _ hb⟩) (fun p j σ' H2 ⟨_, _, _, h, _⟩ => h) (fun p j x σ' H2 hx ⟨x4, es, E2, hp, hpl, hb2⟩ => ?_) (fun p σ' H2 ⟨x4, es, E2, hp, hpl, hb2⟩ => ?_)
      · subst es
        obtain ⟨g, hg1, rfl⟩ := at_ints hx
        have hj : j < gs.length := by have := (List.getElem?_eq_some_iff.mp hg1).1; rw [iN_len] at this; exact this
        have hgm : gs.getD j 0 ∈ gs := by rw [List.getD_eq_getElem?_getD, List.getElem?_eq_getElem hj]; exact List.getElem_mem hj
        have eg : g = ((gs.getD j 0 : Nat) : Int) := by
          have := sN_at hg1
          rw [iN_at] at this
          exact this.symm
        subst eg
        have g1 := hg _ hgm
        have etk : gs.take (j + 1) = gs.take j ++ [gs.getD j 0] := by
          rw [List.take_succ, List.getD_eq_getElem?_getD, List.getElem?_eq_getElem hj]
          rfl
        rw [etk, List.any_append, List.any_cons, List.any_nil, Bool.or_false]
        generalize hcur : ((gs.take j).any fun g => decide (g ≤ i + 1) && (htab gs i).getD (i + 1 - g) false) = cur at hb2 ⊢
        generalize gs.getD j 0 = g at *
        have ed : decide ((g : Int) ≤ ((i + 1 : Nat) : Int)) = decide (g ≤ i + 1) := by
          by_cases h : g ≤ i + 1
          · rw [decide_eq_true h, decide_eq_true (by omega)]
          · rw [decide_eq_false h, decide_eq_false (by omega)]
        have bat : ∀ k, k ≤ i → (htab gs i ++ cur :: List.replicate r false).getD k false = (htab gs i).getD k false := fun k hk => by
          rw [List.getD_eq_getElem?_getD, List.getElem?_append_left (by rw [htab_len]; omega), ← List.getD_eq_getElem?_getD]
        refine s_when (b := decide (g ≤ i + 1) && (htab gs i).getD (i + 1 - g) false) (et_and (et_is (et_test (ev_op (x := .int (g : Int)) (y := .int ((i + 1 : Nat) : Int)) (ev_var rfl) (ev_var rfl) rv_I0)) ed) (fun hle => ?_)) (fun hy H3 e3 => ?_) (fun hn H3 e3 => ⟨_, rfl, E2.trans e3, e3 _ _ hp, hpl, ?_⟩)
        · have hle := of_decide_eq_true hle
          refine et_B (ev_ixA (b := false) (i := ((i + 1 - g : Nat) : Int)) (ev_var rfl) (ev_is (ev_op (x := .int ((i + 1 : Nat) : Int)) (y := .int (g : Int)) (ev_var rfl) (ev_var rfl) rv_I0) (by congr 1; omega)) (SqB.l (sq_of hb2)) (atI_n ?_))
          rw [← bat _ (by omega)]
          exact bl_at (by rw [hb']; omega)
        · have hl3 : (htab gs i ++ cur :: List.replicate r false).length = m + 1 := hb' cur
          refine s_setL (j := i + 1) (e3 _ _ hb2) ev_c (ev_var rfl) (ev_var rfl) (by rw [List.length_map]; omega) fun H4 e4 => ⟨_, rfl, Ex.mut ((E2.trans e3).trans e4) (fresh_back (Ex.refl _) hl1), by rw [upd_ne hpl]; exact e4 _ _ (e3 _ _ hp), hpl, ?_⟩
          rw [hy, Bool.or_true]
          have e9 : ((htab gs i ++ cur :: List.replicate r false).map V.bl).set (i + 1) (V.bl true) = (htab gs i ++ true :: List.replicate r false).map V.bl := by
            rw [← List.map_set]
            congr 1
            rw [List.set_append_right _ _ (by rw [htab_len]; exact Nat.le_refl _), htab_len, Nat.sub_self, List.set_cons_zero]
          rw [← e9]
          exact upd_same
        · rw [hn, Bool.or_false]
          exact e3 _ _ hb2
      · subst es
        rw [List.length_map, iN_len, List.take_length] at hb2
        refine ⟨_, _, rfl, E2, ?_⟩
        rw [hm2]
        have e9 : htab gs (i + 1) = htab gs i ++ [gs.any fun g => decide (g ≤ i + 1) && (htab gs i).getD (i + 1 - g) false] := rfl
        rw [e9, List.append_assoc]
        exact hb2
    · subst es
      have en : (((m + 1 : Nat) : Int) - 1).toNat = m := by omega
      rw [en, Nat.sub_self] at hb
      rw [List.replicate_zero, List.append_nil] at hb
      exact s_ret (ev_var rfl) fun H2 e2 => hQ l H2 hl1 (E1.trans e2) (e2 _ _ hb)
/-! _law_t_is -/
def loL : PL → List Int → List Int
  | [], ns => ns
  | p :: ps, ns => loL ps (itT p.1.toNat (-p.2).toNat ns)
def loB : PL → List Int → Bool
  | [], _ => true
  | p :: ps, ns => decide (0 ≤ p.1 ∧ p.2 ≤ 100 ∧ -100 ≤ p.2 ∧ ns.length + p.1.toNat * (-p.2).toNat ≤ 40000) && loB ps (itT p.1.toNat (-p.2).toNat ns)
theorem ev_max2' {σ : L2.St} {H : Hp} {ta tb : TE} {i : Int} (ha : Ev ta σ H (.int i)) (hb : Ev tb σ H (.int 0)) : Ev (tCB (fun xs H Q => ∃ i j, xs = [.int i, .int j] ∧ Q (.int (if j > i then j else i)) H) (tCons ta (tCons tb tNil))) σ H (.int ((i.toNat : Nat) : Int)) :=
  ev_is (ev_max2 ha hb) (by congr 1; split <;> omega)
def sp_law_t_is (K : PySem.W.Frag) : Sp := fun vs H Q _ => ∃ (x y : V) (ns : List Int) (ps : PL), vs = [x, y] ∧ PoA K ns x H ∧ ns.length ≤ 1000 ∧ Dp K H y (cabD false ps) ∧ ps.length ≤ 1000 ∧ upB ps [1] = true ∧ loB ps ns = true ∧ ∀ H', Ex H H' → Q (.bl (decide (loL ps ns = upL ps [1]))) H'
theorem ok_law_t_is (T : Wk h0 K mg base) : ClC CX0 PP w K mg base 2 "_law_t_is" ["told", "factors"] (sp_law_t_is K) := by
  obtain ⟨fd, F⟩ := f_law_t_is T
  refine ⟨_, fd, g_law_t_is T, F.kp, F.bindsN (fun _ _ _ _ _ _ us hl => match us, hl with | [_, _], _ => rfl), F.ok sc_law_t_is (fun vs H Q E h => ?_) (fun cdv A outer s H vs Q E hr h => ⟨_, PSs.nox (pss_cons (ps_if (PW.pt (pw_or (pt_not (pt_val (pe_callB (call_isi1 (K := K) rfl) (by rfl) (m_isinstance T) boot_isinstance (pa_cons (pv 0) (pa_cons (pe_glob (v := .ref (ga K "Poly")) (by rfl) (g_Poly T) rfl) pa_nil))))) (pw_or1 (pt_cmpR (op_neD (hu64 hr)) (pe_lc (own := [("item", 7)]) (g := gName 7) rfl sc_law_t_is.nd (pi_any (pe_fldK (K := K) rfl (pv 0) rfl)) (blkOk_by (N := N_law_t_is) (sc := defScope s_law_t_is) (by decide +kernel)) (fun _ _ _ _ _ => (pg_name (i := 7) sc_law_t_is.nd rfl (Or.inl rfl))) (fun _ _ _ _ _ => (pts_one (pt_cmpR (op_ne) (pe_fldK (K := K) rfl (pv 7) rfl) (pe_int) (nomark _)))) (fun _ _ _ _ _ => (pv 7))) (pe_lst pa_nil) (nomark _))))) (pss_one (ps_ret (pe_bl))) pss_nil) (pss_cons (ps_par (i := 2) (j := 3) (by rfl) sc_law_t_is.nd rfl rfl (by decide) rfl rfl (pa_cons (pe_lc (own := [("item", 7)]) (g := gName 7) rfl sc_law_t_is.nd (pi_any (pe_fldK (K := K) rfl (pv 0) rfl)) (blkOk_by (N := N_law_t_is) (sc := defScope s_law_t_is) (by decide +kernel)) (fun _ _ _ _ _ => (pg_name (i := 7) sc_law_t_is.nd rfl (Or.inl rfl))) (fun _ _ _ _ _ => pts_nil) (fun _ _ _ _ _ => (pe_fldK (K := K) rfl (pv 7) rfl))) (pa_cons (pe_lst (pa_cons (pe_int) pa_nil)) pa_nil)) (by rfl)) (pss_cons (ps_for PassesOwn.never rfl (pi_any (pv 1)) (pg_tup rfl (pgs_cons (pg_name (i := 4) sc_law_t_is.nd rfl (Or.inl rfl)) (pgs_cons (pg_name (i := 5) sc_law_t_is.nd rfl (Or.inl rfl)) pgs_nil))) (pss_cons (ps_for PassesOwn.never rfl (pi_range1 (by rfl) (m_range T) (pa_cons (pe_callB (call_max2 rfl) (by rfl) (m_max T) boot_max (pa_cons (pv 5) (pa_cons (pe_int) pa_nil))) pa_nil)) (pg_name (i := 6) sc_law_t_is.nd rfl (Or.inl rfl)) (pss_one (ps_set (i := 3) sc_law_t_is.nd rfl (Or.inl rfl) (pe_cl (ok_law_t_times T) hr (by decide) (by rfl) (pa_cons (pv 3) (pa_cons (pv 4) pa_nil)))))) (pss_one (ps_for PassesOwn.never rfl (pi_range1 (by rfl) (m_range T) (pa_cons (pe_callB (call_max2 rfl) (by rfl) (m_max T) boot_max (pa_cons (pe_un un_neg (pv 5)) (pa_cons (pe_int) pa_nil))) pa_nil)) (pg_name (i := 6) sc_law_t_is.nd rfl (Or.inl rfl)) (pss_one (ps_set (i := 2) sc_law_t_is.nd rfl (Or.inl rfl) (pe_cl (ok_law_t_times T) hr (by decide) (by rfl) (pa_cons (pv 2) (pa_cons (pv 4) pa_nil))))))))) (pss_one (ps_ret (pe_cmpR (op_eqD (hu64 hr)) (pv 2) (pv 3) (nomark _))))))), ?_⟩)⟩
  · obtain ⟨x, y, ns, ps, rfl, _⟩ := h; rfl
  · obtain ⟨x, y, ns, ps, rfl, ⟨x', dx, t, lv, rfl, hx, tp, xs, rfl, hts, htr⟩, hnl, hd, hpl, hB1, hB2, hQ⟩ := h
    obtain ⟨a, ys, rfl, sq, da, hlen⟩ := cab_inv hd
    have hxl := htr.1
    have fl : ∀ {σ : L2.St} {H1 : Hp}, Ex H H1 → σ[0]? = some (some (.ref x')) → Ev (tFld K (tVar 0) "numbers") σ H1 (.ref tp) := fun {σ H1} e h => ev_fld (ev_var h) (e _ _ hx) (c_Poly T) (n_Poly_numbers T) rfl
    have it : ∀ {σ : L2.St} {H1 : Hp} {i : Nat} {z : V} {f : Str} {v : V}, Ex H H1 → xs[i]? = some z → σ[7]? = some (some z) → NoAttr K (ga K "Ratio") f → (raF (ns.getD i 0) 1).lookup f = some v → Ev (tFld K (tVar 7) f) σ H1 v := fun {σ H1 i z f v} e hz h n hl => by
      obtain ⟨r, dr, rfl, hr⟩ := htr.2 i z hz
      exact ev_fld (ev_var h) (e _ _ hr) (c_Ratio T) n hl
    refine q_when (b := !true || (!PyData.eqv (seqD false (([] : List Int).map PyData.int)) (seqD false (([] : List Int).map PyData.int)))) (et_or (et_not (et_B (ev_isi (ev_var rfl) (.own _) (InsC.ty (insC T (x := "Poly") (by decide)) hx) (kit T (q := (.inr "Poly", .inr "Poly", true)) (by decide))))) (fun _ => et_test (ep_neD ?_ ?_ shaped_ints shaped_ints))) (fun h => ?_) (fun _ H1 e1 => ?_)
    · have hlc := el_lcA (K := K) (b := true) (a := tp) (xs := xs) (σ := [some (.ref x'), some (.ref a), none, none, none, none, none, none]) (H := H) (tl := tFld K (tVar 0) "numbers") (t := tTest (tOp rNe (tFld K (tVar 7) "bottom") (tC (.int 1)))) (te := tVar 7) (j := 7) (vs := [7]) (fun _ => false) (fun _ => .non) (fl (Ex.refl _) rfl) (SqB.t hts) (by omega) (fun _ => rfl) (fun i z H1 e hz => ?_) (fun i z H1 e hz h => by cases h)
      · refine (EvL.p hlc).imp fun v H1 _ ⟨p, ev, hp⟩ => ?_
        subst ev
        have e0 : given xs.length (fun _ => false) (fun _ => V.non) = ([] : List Int).map V.int := by
          unfold given
          rw [List.filter_eq_nil_iff.mpr (fun _ _ h => by cases h)]
          rfl
        rw [e0] at hp
        exact Dp.seq (b := false) (sq_of hp) DpAll.ints
      · exact et_is (et_test (ev_op (it e hz rfl (n_Ratio_bottom T) rfl) ev_c (rv_ne rfl))) rfl
    · exact (EvL.p (el_lst ea_nil (by decide))).imp fun v H1 _ ⟨p, ev, hp⟩ => by
        subst ev
        exact Dp.seq (b := false) (sq_of hp) .nil
    · rw [eqv_ints, decide_eq_true rfl] at h
      cases h
    · refine q_parLn (xs := ns.map V.int) (ys := ([1] : List Int).map V.int) ?_ (el_lst (ea1 ev_c) (by show (1 : Nat) ≤ 100000; decide)) fun l f H2 hl0 hf0 hlf e2 hl2 hf2 => ?_
      · have hlc := el_lcA (K := K) (b := true) (a := tp) (xs := xs) (σ := [some (.ref x'), some (.ref a), none, none, none, none, none, none]) (H := H1) (tl := tFld K (tVar 0) "numbers") (t := tYes) (te := tFld K (tVar 7) "top") (j := 7) (vs := [7]) (fun _ => true) (fun i => .int (ns.getD i 0)) (fl e1 rfl) (SqB.t (ex_t e1 hts)) (by omega) (fun _ => rfl) (fun i z H1 e hz => fun H2 _ Q q => q H2 (Ex.refl H2)) (fun i z H2 e hz _ => it (e1.trans e) hz rfl (n_Ratio_top T) rfl)
        rw [given_all, hxl] at hlc
        have e0 : (List.range ns.length).map (fun i => V.int (ns.getD i 0)) = ns.map V.int := by
          refine List.ext_getElem (by simp) fun i h1 h2 => ?_
          rw [List.getElem_map, List.getElem_range, List.getElem_map, List.getD_eq_getElem?_getD, List.getElem?_eq_getElem (by simpa using h2)]
          rfl
        rw [e0] at hlc
        exact hlc
      have E2 := e1.trans e2
      refine q_forA (K := K) (b := false) (a := a) (xs := ys) (ev_var rfl) (sq.ex E2) (fun i σ' H' => ∃ (l f : Addr) (x4 x5 x6 : Option V) (lo hi : List Int), σ' = [some (.ref x'), some (.ref a), some (.ref l), some (.ref f), x4, x5, x6, none] ∧ Ex H H' ∧ H' l = some (.lst (lo.map V.int)) ∧ H' f = some (.lst (hi.map V.int)) ∧ upL (ps.drop i) hi = upL ps [1] ∧ loL (ps.drop i) lo = loL ps ns ∧ upB (ps.drop i) hi = true ∧ loB (ps.drop i) lo = true)
        (fun H3 e3 => ⟨l, f, none, none, none, ns, [1], rfl, E2.trans e3, e3 _ _ hl2, e3 _ _ hf2, rfl, rfl, hB1, hB2⟩) (fun i σ' H' _ ⟨_, _, _, _, _, _, _, _, e, _⟩ => sq.ex e) (fun i x σ' H' hx ⟨l, f, x4, x5, x6, lo, hi, es, e, hlo, hhi, hu, hv, hbu, hbv⟩ => ?_) (fun σ' H' ⟨l, f, x4, x5, x6, lo, hi, es, e, hlo, hhi, hu, hv, hbu, hbv⟩ => ?_)
      · subst es
        obtain ⟨p, c, hp, rfl, hc⟩ := cab_at da hx
        obtain ⟨p1, p2⟩ := p
        rw [drop_p hp] at hu hv hbu hbv
        obtain ⟨hb1, hb2⟩ := ba hbu
        obtain ⟨hb3, hb4⟩ := ba hbv
        have hb1 : 0 ≤ p1 ∧ p2 ≤ 100 ∧ -100 ≤ p2 ∧ hi.length + p1.toNat * p2.toNat ≤ 40000 := of_decide_eq_true hb1
        have hb3 : 0 ≤ p1 ∧ p2 ≤ 100 ∧ -100 ≤ p2 ∧ lo.length + p1.toNat * (-p2).toNat ≤ 40000 := of_decide_eq_true hb3
        obtain ⟨k, rfl⟩ : ∃ k : Nat, p1 = (k : Int) := ⟨p1.toNat, by omega⟩
        rw [Int.toNat_natCast] at hb1 hb3
        refine ⟨c, _, rfl, ex_t e hc, rfl, _, _, rfl, _, _, rfl, rfl, ?_⟩
        refine q_forR1 (n := ((p2.toNat : Nat) : Int)) (ea1 (ev_max2' (ev_var rfl) ev_c)) ⟨by omega, by omega⟩ (fun m σ' H2 => ∃ (f : Addr) (x6 : Option V), σ' = [some (.ref x'), some (.ref a), some (.ref l), some (.ref f), some (.int (k : Int)), some (.int p2), x6, none] ∧ Ex H H2 ∧ H2 l = some (.lst (lo.map V.int)) ∧ H2 f = some (.lst ((itT k m hi).map V.int)))
          (fun H2 e2 => ⟨f, x6, rfl, e.trans e2, e2 _ _ hlo, e2 _ _ hhi⟩) (fun m σ' H2 hm ⟨f, x6, es, e2, hl2, hf2⟩ => ?_) (fun σ' H2 ⟨f, x6, es, e2, hl2, hf2⟩ => ?_)
        · subst es
          have hml : k * (m + 1) ≤ k * p2.toNat := Nat.mul_le_mul_left _ (by omega)
          rw [Nat.mul_succ] at hml
          refine s_asgL (el_tf (b := false) (ev_var rfl) (ev_var rfl) (SqB.l (sq_of hf2)) (by rw [itT_len]; omega)) fun q H3 hq e3 h3 => ⟨q, _, rfl, e2.trans e3, e3 _ _ hl2, h3⟩
        · subst es
          rw [Int.toNat_natCast] at hf2
          refine s_forR1 (n := (((-p2).toNat : Nat) : Int)) (ea1 (ev_max2' (ev_un (ev_var rfl) ru_neg) ev_c)) ⟨by omega, by omega⟩ (fun m σ' H3 => ∃ (l : Addr) (x6 : Option V), σ' = [some (.ref x'), some (.ref a), some (.ref l), some (.ref f), some (.int (k : Int)), some (.int p2), x6, none] ∧ Ex H H3 ∧ H3 l = some (.lst ((itT k m lo).map V.int)) ∧ H3 f = some (.lst ((itT k p2.toNat hi).map V.int)))
            (fun H3 e3 => ⟨l, x6, rfl, e2.trans e3, e3 _ _ hl2, e3 _ _ hf2⟩) (fun m σ' H3 hm ⟨l, x6, es, e3, hl3, hf3⟩ => ?_) (fun σ' H3 ⟨l, x6, es, e3, hl3, hf3⟩ => ?_)
          · subst es
            have hml : k * (m + 1) ≤ k * (-p2).toNat := Nat.mul_le_mul_left _ (by omega)
            rw [Nat.mul_succ] at hml
            refine s_asgL (el_tf (b := false) (ev_var rfl) (ev_var rfl) (SqB.l (sq_of hl3)) (by rw [itT_len]; omega)) fun q H4 hq e4 h4 => ⟨q, _, rfl, e3.trans e4, h4, e4 _ _ hf3⟩
          · subst es
            rw [Int.toNat_natCast] at hl3
            exact ⟨l, f, _, _, _, _, _, rfl, e3, hl3, hf3, hu, hv, hb2, hb4⟩
      · subst es
        have hdl : ps.drop ys.length = [] := List.drop_eq_nil_of_le (by omega)
        rw [hdl] at hu hv
        have hu : hi = upL ps [1] := hu
        have hv : lo = loL ps ns := hv
        subst hu hv
        refine s_ret (ev_is (ev_eqD (ev_var rfl) (ev_var rfl) (Dp.seq (b := false) (sq_of hlo) DpAll.ints) (Dp.seq (b := false) (sq_of hhi) DpAll.ints) shaped_ints shaped_ints) (congrArg V.bl eqv_ints)) fun H2 e2 => hQ H2 (e.trans e2)
end
end K42
set_option maxHeartbeats 0
/-! The plain law: the rows that are drawn. -/
namespace K42
open PySem PySem.Spec PyProof.Rows L2 He TC Evl
def incB : Nat → List Nat → Bool
  | _, [] => true
  | t, x :: r => decide (t < x) && incB x r
theorem incB_iff : ∀ (r : List Nat) (t : Nat), incB t r = true → Inc t r
  | [], _, _ => True.intro
  | x :: r, t, h => by
    obtain ⟨h1, h2⟩ := ba h
    exact ⟨of_decide_eq_true h1, incB_iff r x h2⟩
def rowB (n : Nat) (rest : List Nat) : Bool := (decide (0 < n ∧ n ≤ 24 ∧ rest.length ≤ 4) && (incB 0 rest && decide (shn n rest rest.length = 1))) && ((List.range rest.length).all (fun i => decide (rest.getD i 0 ≤ 80)) && (chBreach (iN (n :: rest))).isNone)
theorem rowB_iff {n : Nat} {rest : List Nat} (h : rowB n rest = true) : RowB n rest := by
  obtain ⟨h1, h2⟩ := ba h
  obtain ⟨h3, h4⟩ := ba h1
  obtain ⟨h5, h6⟩ := ba h4
  obtain ⟨h7, h8⟩ := ba h2
  have h3 := of_decide_eq_true h3
  exact ⟨⟨h3.1, incB_iff _ _ h5, of_decide_eq_true h6⟩, h3.2.2, h3.2.1, fun i hi => of_decide_eq_true (List.all_eq_true.mp h7 i (List.mem_range.mpr hi)), Option.isNone_iff_eq_none.mp h8⟩
def knG (n : Nat) (rest : List Nat) : List (Int × Int) := knF (cabOf (iN (n :: rest))).reverse 1
def okA (n : Nat) (rest : List Nat) : Bool :=
  (okRow (iN (n :: rest)) && (posR (iN (n :: rest)) && (knB (cabOf (iN (n :: rest))).reverse 1 && prodB (knG n rest)))) && (rowB n rest && gdB (iN (n :: rest)))
def okB (n : Nat) (rest : List Nat) (kn : List Int) (c : Nat) : Bool :=
  ((decide (cn n rest = (c : Int)) && decide (c ≤ 900)) && (decide (conS (iN (n :: rest)) = (c : Int)) && decide (ordL n rest c = kn))) &&
  ((decide (wz kn = kn) && decide (kn.length = c + 1)) && (decide (kn.reverse = kn) && decide (kn.reverse.sum = 1)))
def okC (n : Nat) (rest : List Nat) (kn : List Int) : Bool :=
  upB (knG n rest) [1] && (loB (knG n rest) kn && decide (loL (knG n rest) kn = upL (knG n rest) [1]))
def okD (n : Nat) (rest : List Nat) (c : Nat) : Bool := decide ((htab (gens n rest) c).count false * 2 = c)
def okN (p : Nat × List Nat) : Bool := okA p.1 p.2 && (okB p.1 p.2 (knL (iN (p.1 :: p.2))) (cn p.1 p.2).toNat && (okC p.1 p.2 (knL (iN (p.1 :: p.2))) && okD p.1 p.2 (cn p.1 p.2).toNat))
def rowsN : List (Nat × List Nat) := rows.map fun ns => ((ns.headD 0).toNat, ns.tail.map Int.toNat)
def pairsN : List (Nat × List Nat) := ((List.range 6).flatMap fun x => (List.range 20).map fun y => (2 + x, [3 + y])).filter fun p => decide (p.1 < p.2.headD 0) && decide (Nat.gcd (p.2.headD 0) p.1 = 1)
theorem rows_ok : rowsN.all okN = true := by decide +kernel
theorem pairs_ok : pairsN.all okN = true := by decide +kernel
theorem rows_iN : ∀ ns ∈ rows, iN ((ns.headD 0).toNat :: ns.tail.map Int.toNat) = ns := by decide +kernel
/-- what the law needs of a drawn row -/
structure Fine (n : Nat) (rest : List Nat) (kl : List Int) (c : Nat) : Prop where
  ok : okRow (iN (n :: rest)) = true
  po : posR (iN (n :: rest)) = true
  kB : knB (cabOf (iN (n :: rest))).reverse 1 = true
  pB : prodB (knG n rest) = true
  R : RowB n rest
  gd : gdB (iN (n :: rest)) = true
  eK : knL (iN (n :: rest)) = kl
  eC : cn n rest = (c : Int)
  c9 : c ≤ 900
  con : conS (iN (n :: rest)) = (c : Int)
  ord : ordL n rest c = kl
  eW : wz kl = kl
  len : kl.length = c + 1
  rev : kl.reverse = kl
  sum : kl.reverse.sum = 1
  uB : upB (knG n rest) [1] = true
  lB : loB (knG n rest) kl = true
  eI : loL (knG n rest) kl = upL (knG n rest) [1]
  half : (htab (gens n rest) c).count false * 2 = c
theorem fine_of {p : Nat × List Nat} (h : okN p = true) : ∃ kn c, Fine p.1 p.2 kn c := by
  obtain ⟨n, rest⟩ := p
  refine ⟨knL (iN (n :: rest)), (K42.cn n rest).toNat, ?_⟩
  obtain ⟨hA, h⟩ := ba h
  obtain ⟨hB, h⟩ := ba h
  obtain ⟨hC, hD⟩ := ba h
  obtain ⟨a1, a2⟩ := ba hA
  obtain ⟨a3, a4⟩ := ba a1
  obtain ⟨a5, a6⟩ := ba a4
  obtain ⟨a7, a8⟩ := ba a6
  obtain ⟨a9, a10⟩ := ba a2
  obtain ⟨b1, b2⟩ := ba hB
  obtain ⟨b3, b4⟩ := ba b1
  obtain ⟨b5, b6⟩ := ba b3
  obtain ⟨b7, b8⟩ := ba b4
  obtain ⟨b9, b10⟩ := ba b2
  obtain ⟨b11, b12⟩ := ba b9
  obtain ⟨b13, b14⟩ := ba b10
  obtain ⟨c1, c2⟩ := ba hC
  obtain ⟨c3, c4⟩ := ba c2
  exact ⟨a3, a5, a7, a8, rowB_iff a9, a10, rfl, of_decide_eq_true b5, of_decide_eq_true b6, of_decide_eq_true b7, of_decide_eq_true b8, of_decide_eq_true b11, of_decide_eq_true b12, of_decide_eq_true b13, of_decide_eq_true b14, c1, c3, of_decide_eq_true c4, of_decide_eq_true hD⟩
theorem fine_row {ns : List Int} (h : ns ∈ rows) : ∃ n rest kn c, ns = iN (n :: rest) ∧ Fine n rest kn c := by
  have h1 := List.all_eq_true.mp rows_ok ((ns.headD 0).toNat, ns.tail.map Int.toNat) (List.mem_map.mpr ⟨ns, h, rfl⟩)
  obtain ⟨kn, c, F⟩ := fine_of h1
  exact ⟨_, _, kn, c, (rows_iN ns h).symm, F⟩
theorem fine_pair {x y : Nat} (hx : x < 6) (hy : y < 20) (h1 : 2 + x < 3 + y) (h2 : Nat.gcd (3 + y) (2 + x) = 1) : ∃ kn c, Fine (2 + x) [3 + y] kn c := by
  have hm : (2 + x, [3 + y]) ∈ pairsN := List.mem_filter.mpr ⟨List.mem_flatMap.mpr ⟨x, List.mem_range.mpr hx, List.mem_map.mpr ⟨y, List.mem_range.mpr hy, rfl⟩⟩, by
    show (decide (2 + x < 3 + y) && decide (Nat.gcd (3 + y) (2 + x) = 1)) = true
    rw [decide_eq_true h1, decide_eq_true h2]
    rfl⟩
  exact fine_of (List.all_eq_true.mp pairs_ok _ hm)
/-! what the law reckons of the table -/
def bH (n : Nat) (rest : List Nat) (c k : Nat) : Bool := (htab (gens n rest) c).getD k false
theorem bH_eq {n : Nat} {rest : List Nat} {c k : Nat} (R : RowB n rest) (h : k ≤ c) : bI (bH n rest c k) = pT n rest k := by
  unfold bH pT
  rw [htab_at _ _ _ h, R.row.held]
  by_cases z : 0 ≤ t0 n rest (k : Int)
  · rw [decide_eq_true z, if_pos z]; rfl
  · rw [decide_eq_false z, if_neg z]; rfl
/-! constants -/
theorem kn1 : (okRow [1] && (knB (cabOf [1]).reverse 1 && prodB (knF (cabOf [1]).reverse 1))) = true ∧ knL [1] = [1] := by decide +kernel
theorem kn23 : (okRow [2, 3] && (knB (cabOf [2, 3]).reverse 1 && prodB (knF (cabOf [2, 3]).reverse 1))) = true ∧ knL [2, 3] = [1, -1, 1] := by decide +kernel
theorem kn34 : (okRow [3, 4] && (knB (cabOf [3, 4]).reverse 1 && prodB (knF (cabOf [3, 4]).reverse 1))) = true ∧ knL [3, 4] = [1, -1, 0, 1, 0, -1, 1] := by decide +kernel
def torL (k : Nat) : List Int := (List.range (2 * k + 1)).map fun i : Nat => 1 - 2 * ((i : Int) % 2)
theorem kn2k : ∀ (k : Nat), k < 10 → 1 ≤ k → (okRow [2, 2 * (k : Int) + 1] && (knB (cabOf [2, 2 * (k : Int) + 1]).reverse 1 && prodB (knF (cabOf [2, 2 * (k : Int) + 1]).reverse 1))) = true ∧ knL [2, 2 * (k : Int) + 1] = torL k ∧ wz (torL k) = torL k := by decide +kernel
theorem wz_c : wz [1] = [1] ∧ wz [1, -1, 1] = [1, -1, 1] ∧ wz [1, -1, 0, 1, 0, -1, 1] = [1, -1, 0, 1, 0, -1, 1] := by decide +kernel
theorem or1 : rowB 1 [] = true ∧ cn 1 [] = 0 ∧ wz (ordL 1 [] 0) = [1] := by decide +kernel
end K42
set_option maxHeartbeats 0
/-! The law's last lines: what is compared; the calls of caught. -/
namespace K42
open PySem PySem.Spec PyProof.Rows L2 He TC Evl LamX
section
variable {w : World} {h0 base : Heap} {K : PySem.W.Frag} {mg : Str → Option Value}
abbrev LX (w : World) (K : PySem.W.Frag) (mg : Str → Option Value) (base : Heap) (cdv : Value) (A : Around) (outer : List Env) (s : Shared) (H : Hp) (E : XK) : Cx := cxOf (L2.CX PP w) PP w K mg base N_law "law" (defScope s_law) (ga K "law") cdv A outer s H E
/-- items of the two tuples: equal texts, or instances with equal fields -/
def Rno (C : Addr) (a b : Addr) (H : Hp) : Prop := ∃ (dx dy : Addr) (s : Str) (i : Int), PyData.strOk s = true ∧ H a = some (.ins C dx [("why", .str s), ("index", .int i)]) ∧ H b = some (.ins C dy [("why", .str s), ("index", .int i)])
def Dq (K : PySem.W.Frag) : Eqv := fun x y H => DFlat x y H ∨ DIns (ga K "NoCharacters") (Rno (ga K "NoCharacters")) x y H
theorem mon_Dq : Mon (Dq K) := mon_flat.or (mon_ins fun a b H H' e ⟨dx, dy, s, i, h0, h1, h2⟩ => ⟨dx, dy, s, i, h0, e _ _ h1, e _ _ h2⟩)
theorem shaped_no {s : Str} {i : Int} (h : PyData.strOk s = true) : SeqAt.shaped (.tuple [.str s, .int i]) = true := by
  show (PyData.canLay0 (.tuple [.str s, .int i]) && decide (PyData.depth (.tuple [.str s, .int i]) ≤ 64)) = true
  simp [PyData.canLay0, PyData.canLayAll0, PyData.depth, PyData.depthAll, h]
theorem eqG_Dq {X : Cx} (T : Wk h0 K mg base) (hP : X.prog = PP) (hw : X.w = w) (hK : X.K = K) (hm : X.mg = mg) (hB : X.base = base) : EqG X 1 (Dq K) := by
  subst hw hK hm hB
  obtain ⟨fd, b, F⟩ := (ok_NoCharacters_eq (w := X.w) T).ex
  have c := eqC T (x := "NoCharacters") (by decide) (me_NoCharacters_eq T)
  refine EqG.or (eqG_flat.mono (Nat.zero_le _)) (eqG_ins (CX := CX0) (E := E0) (hP ▸ TC.FnOk.imp F fun vs H Q E h => ?_) c.eq c.isf b (fun _ _ _ _ _ _ _ h => h.elim))
  obtain ⟨a, b, rfl, ⟨dx, dy, s, i, hs, h1, h2⟩, hQ⟩ := h
  refine ⟨a, b, dx, dy, _, _, _, _, .str s, .int i, .str s, .int i, rfl, h1, h2, .str s, .int i, .str s, .int i, shaped_no hs, shaped_no hs, fun H' e => ?_⟩
  have he : PyData.eqv (.tuple [.str s, .int i]) (.tuple [.str s, .int i]) = true := by simp [PyData.eqv, PyData.eqvAll]
  rw [he]
  exact hQ H' e
theorem opNeQ {X : Cx} (T : Wk h0 K mg base) (hP : X.prog = PP) (hw : X.w = w) (hK : X.K = K) (hm : X.mg = mg) (hB : X.base = base) {k : Nat} (hr : Room k X.A) (hk : 2 ≤ k) : OpR X (compareOp .NotEq) (rNeT K (Dq K)) := by
  have e := eqG_Dq (w := w) T hP hw hK hm hB
  have o := op_neT (mon_Dq (K := K)) e (hr.mono hk)
  rw [hK] at o
  exact o
theorem opNeRa {X : Cx} (T : Wk h0 K mg base) (hP : X.prog = PP) (hw : X.w = w) (hK : X.K = K) (hm : X.mg = mg) (hB : X.base = base) {k : Nat} (hr : Room k X.A) (hk : 2 ≤ k) : OpR X (compareOp .NotEq) (rNeL (DRa K)) :=
  op_neL (mon_DRa (K := K)) (eqG_DRa (w := w) T hP hw hK hm hB) (hr.mono hk)
/-- caught, over whatever greater base -/
theorem caught_all (T : Wk h0 K mg base) : ∃ f, mg "_law_g_caught" = some (.ref f) ∧ PySem.W.keepIn K (.ref f) = true ∧ ∀ B, L2.Mod K mg B → ∃ fd, Binds K fd ["call"] [] ∧ FnG PP w K mg B CX0 13 f fd ["call"] (sp_caught w K mg B) := by
  obtain ⟨f, fd, hm, kp, hb, F⟩ := ok_caught (w := w) T
  refine ⟨f, hm, kp, fun B m => ?_⟩
  obtain ⟨f', fd', hm', kp', hb', F'⟩ := ok_caught (w := w) (⟨T.says, m.kin, m.glob⟩ : Wk h0 K mg B)
  have e : f' = f := by
    have z := hm'.symm.trans hm
    injection z with z
    injection z
  subst e
  exact ⟨fd', hb', F'⟩
end
section
variable {w : World} {K : PySem.W.Frag} {mg : Str → Option Value} {X : Cx} {σ : L2.St} {H H' : Hp} {TT : List (Addr × Str)} {tl : TE} {P W : V → Hp → Prop}
/-- caught(a lambda) -/
theorem em_caught (hl : EvM TT tl σ H W) (m : MonN P) (hb : ∀ v H1, ExtN H H1 → W v H1 → ∀ B, BaseI X σ B → ∀ Q : VK, (∀ u H2, Ex H1 H2 → P u H2 → Q u H2) → ∃ f, v = .ref f ∧ Thunk PP w K mg B 12 f H1 (fun _ _ => False) (fun cls d H' => Wish K cls d H' Q)) :
    EvM TT (tCallB X (sp_caught w K mg) (tCons tl tNil)) σ H P := ⟨fun H0 e t Q q => hl.1 H0 e t _ fun v H1 e1 t1 hw => (show ∀ B, BaseI X σ B → sp_caught w K mg B [v] H1 Q E0 from fun B hB => by
  obtain ⟨f, rfl, th⟩ := hb v H1 (e.trans e1) hw B hB Q fun u H2 e2 hp => q u H2 (e1.trans (Ex.extN e2)) (t1.ext e2) hp
  exact ⟨f, rfl, th⟩), m⟩
/-- one of the calls: what fails at a bad row -/
def CallF (w : World) (K : PySem.W.Frag) (mg : Str → Option Value) (X : Cx) (x : V) (H : Hp) : Prop := ∃ f, x = .ref f ∧ (∀ H1, ExtN H H1 → FnH f H1) ∧ ∀ (σ' : L2.St) B, BaseI X σ' B → ∀ H1, ExtN H H1 → ∀ u d (E : XK), Dp K H1 u d → (itemsD d).length ≤ 40000 → BadW K E H1 u d → FunV PP w K mg B 11 f [u] H1 (fun _ _ => False) E
theorem CallF.mono {x : V} (e : ExtN H H') (h : CallF w K mg X x H) : CallF w K mg X x H' := by
  obtain ⟨f, h1, h2, h3⟩ := h
  exact ⟨f, h1, fun H1 e1 => h2 H1 (e.trans e1), fun σ' B hB H1 e1 => h3 σ' B hB H1 (e.trans e1)⟩
/-- if caught(..) != due -/
theorem s_neN {D : Ends} {tu : TS} {i : Nat} {dv : V} {Dv : Eqv} (h : EvM TT tl σ H P) (t : Tabs TT H) (hx : σ[i]? = some (some dv)) (hd : ∀ v H1, ExtN H H1 → P v H1 → DTup K Dv v dv H1) (k : ∀ H1, ExtN H H1 → Tabs TT H1 → D.nx σ H1) : tIfS (tTest (tOp (rNeT K Dv) tl (tVar i))) tu tNext D σ H :=
  h.1 H (ExtN.refl H) t _ fun v H1 e1 t1 hv => ⟨dv, hx, hd v H1 e1 hv, fun H2 e2 => ⟨false, rfl, k H2 (e1.trans (Ex.extN e2)) (t1.ext e2)⟩⟩
end
/-! own methods -/
section
variable {X : Cx} {o e : Expr} {es : List Expr} {ta : TE} {t : TA} {m : Str} {apos pos : Pos} {C f : Addr} {k j : Nat} {ps : List Str} {sp : Sp}
theorem pe_mtE {pl : Sem Bool} (c : EqK X.prog X.w X.K X.mg X.base k f ps sp) (hr : Room j X.A) (hk : k ≤ j) (cl : Cls X.K C) (hm : Meth X.K C m f) (he : PE X o ta) (ha : PA X (e :: es) t)
    (hst : starEach (e :: es) X.env = (false, eval e X.env) :: starEach es X.env := by rfl) (hpl : (backTo pos (starEach es X.env)).any (·.1) = false := by rfl)
    (ht : eval (.Call (.Attribute o m apos) (e :: es) [] pos) X.env = (do
      let ov ← eval o X.env
      standAt apos.atName
      let (f, first) ← holding [ov] (getMethod ov m pl)
      callWith pos f first (backTo pos (starEach (e :: es) X.env)) (backToKw pos (keywordEach [] X.env))) := by rfl) : PE X (.Call (.Attribute o m apos) (e :: es) [] pos) (tMeth C m sp [] E0 ta t) := by
  obtain ⟨fd, b, F⟩ := c.ex
  exact pe_meth he cl hm F (hr.mono hk) b .nil (fun _ _ _ _ _ _ _ h => h.elim) ha hst hpl ht
end
/-! the data of the last lines -/
def bads : List PyData := [.none, .int 3, .str "x", .list [.none], .tuple [.bool true]]
structure Shown (d : PyData) : Prop where
  s : d.showable = true
  h : d.hasDict = false
  dp : d.depth ≤ 60
  l : d.shown.length ≤ sizeLine
  i : (itemsD d).length ≤ 40000
def shownB (d : PyData) : Bool := d.showable && (!d.hasDict && (decide (d.depth ≤ 60) && (decide (d.shown.length ≤ sizeLine) && decide ((itemsD d).length ≤ 40000))))
theorem shown_of {d : PyData} (h : shownB d = true) : Shown d := by
  obtain ⟨h1, h⟩ := ba h
  obtain ⟨h2, h⟩ := ba h
  obtain ⟨h3, h⟩ := ba h
  obtain ⟨h4, h5⟩ := ba h
  exact ⟨h1, by simpa using h2, of_decide_eq_true h3, of_decide_eq_true h4, of_decide_eq_true h5⟩
theorem bads_ok : (bads.all fun d => shownB d && !isInts d) = true := by decide +kernel
theorem bad_ok {d : PyData} (h : d ∈ bads) : Shown d ∧ isInts d = false := by
  obtain ⟨h1, h2⟩ := ba (List.all_eq_true.mp bads_ok d h)
  exact ⟨shown_of h1, by simpa using h2⟩
def wrongsN : List (Bool × List Int) := [(false, []), (false, [2, 4]), (true, [2, 2]), (false, [61])]
def wrongs : List PyData := wrongsN.map fun p => seqD p.1 (p.2.map PyData.int)
theorem wrongs_ok : (wrongsN.all fun p => match chBreach p.2 with | some q => PyData.strOk q.1 && decide (p.2.length ≤ 100) | none => false) = true := by decide +kernel
theorem wrong_ok {d : PyData} (h : d ∈ wrongs) : ∃ b ns s i, d = seqD b (ns.map PyData.int) ∧ chBreach ns = some (s, i) ∧ PyData.strOk s = true ∧ ns.length ≤ 100 := by
  obtain ⟨p, hp, rfl⟩ := List.mem_map.mp h
  have := List.all_eq_true.mp wrongs_ok p hp
  cases hq : chBreach p.2 with
  | none => rw [hq] at this; cases this
  | some q =>
    rw [hq] at this
    obtain ⟨h1, h2⟩ := ba this
    exact ⟨p.1, p.2, q.1, q.2, rfl, hq, h1, of_decide_eq_true h2⟩
section
variable {K : PySem.W.Frag} {σ : L2.St} {H : Hp}
theorem ep_bads : EvP (tLst (tCons (tC .non) (tCons (tC (.int 3)) (tCons (tC (.str "x")) (tCons (tLst (tCons (tC .non) tNil)) (tCons (tTup (tCons (tC (.bl true)) tNil)) tNil)))))) σ H (fun v H1 => Dp K H1 v (.list bads)) :=
  epD_lst (ead_cons epD_non (ead_cons epD_int (ead_cons epD_str (ead_cons (epD_lst (ead_cons epD_non ead_nil) (by decide)) (ead_cons (epD_tup (ead_cons epD_bl ead_nil) (by decide)) ead_nil))))) (by decide)
theorem ep_wrongs : EvP (tLst (tCons (tLst tNil) (tCons (tLst (tCons (tC (.int 2)) (tCons (tC (.int 4)) tNil))) (tCons (tTup (tCons (tC (.int 2)) (tCons (tC (.int 2)) tNil))) (tCons (tLst (tCons (tC (.int 61)) tNil)) tNil))))) σ H (fun v H1 => Dp K H1 v (.list wrongs)) :=
  epD_lst (ead_cons (epD_lst ead_nil (by decide)) (ead_cons (epD_lst (ead_cons epD_int (ead_cons epD_int ead_nil)) (by decide)) (ead_cons (epD_tup (ead_cons epD_int (ead_cons epD_int ead_nil)) (by decide)) (ead_cons (epD_lst (ead_cons epD_int ead_nil) (by decide)) ead_nil)))) (by decide)
/-! words of what is caught -/
def TupS (K : PySem.W.Frag) (ss : List Str) : V → Hp → Prop := fun v H => ∃ t, v = .ref t ∧ SqT K H t (ss.map V.str)
theorem monN_S {ss : List Str} : MonN (TupS K ss) := .of fun v H H' e ⟨t, h1, h2⟩ => ⟨t, h1, ex_t e (sqT_tbl h2)⟩
def ChW (K : PySem.W.Frag) (s : Str) (i : Int) : V → Hp → Prop := fun v H => ∃ t z dz, v = .ref t ∧ SqT K H t [.str "characters", .ref z] ∧ H z = some (.ins (ga K "NoCharacters") dz [("why", .str s), ("index", .int i)])
theorem monN_Ch {s : Str} {i : Int} : MonN (ChW K s i) := fun v H H' e ⟨t, z, dz, h1, h2, h3⟩ => ⟨t, z, dz, h1, ex_t (ExtN.ex e) (sqT_tbl h2), e _ _ h3 (fun _ y => nomatch y)⟩
theorem monN_ChA {s : Str} {i : Int} : MonN (fun v H => ChA K v H (some (s, i))) := fun v H H' e ⟨x, dx, h1, h2⟩ => ⟨x, dx, h1, e _ _ h2 (fun ps z => nomatch z)⟩
theorem dp_S : ∀ {ss : List Str} {v : V}, Dp K H v (.tuple (ss.map PyData.str)) → TupS K ss v H := fun {ss v} h => by
  obtain ⟨a, xs, rfl, sq, da⟩ := Dp.seq_inv (b := true) h
  refine ⟨a, rfl, ?_⟩
  have : ∀ {ss : List Str} {xs : List V}, DpAll K H xs (ss.map PyData.str) → xs = ss.map V.str := fun {ss} => by
    induction ss with
    | nil => intro xs h; cases h; rfl
    | cons s ss ih =>
      intro xs h
      cases h with
      | cons h1 h2 =>
        cases h1
        rw [ih h2]; rfl
  rw [this da] at sq
  exact sq
theorem wish_row {bv : V} {bd : PyData} {Q : VK} (sh : Shown bd) (hb : Dp K H bv bd) (q : ∀ v H3, Ex H H3 → TupS K ["row", bd.shown] v H3 → Q v H3) : Err K "BadRow" "value" (fun cls d H' => Wish K cls d H' Q) H (fun v _ => v = bv) := fun H' dd v e ev hdd => by
  subst ev
  exact .inl ⟨dd, v, bd, rfl, rfl, hdd, Dp.ex e hb, sh.s, sh.h, sh.dp, sh.l, fun v3 H2 e2 hv3 => q v3 H2 (e.trans e2) (dp_S (ss := ["row", bd.shown]) hv3)⟩
theorem wish_ch {s : Str} {i : Int} {Q : VK} (q : ∀ v H3, Ex H H3 → ChW K s i v H3 → Q v H3) : Err K "BadCharacters" "answer" (fun cls d H' => Wish K cls d H' Q) H (fun v H' => ChA K v H' (some (s, i))) := fun H' dd v e hv hdd => by
  obtain ⟨z, dz, rfl, hz⟩ := hv
  exact .inr ⟨dd, .ref z, rfl, rfl, hdd, fun v3 H2 e2 ⟨t, ev, st⟩ => q v3 H2 (e.trans e2) ⟨t, z, dz, ev, st, e2 _ _ hz⟩⟩
theorem dq_strs : ∀ {ss : List Str} {H : Hp}, Prs (Dq K) (ss.map V.str) (ss.map V.str) H
  | [], _ => Prs.nil
  | s :: ss, _ => Prs.cons (.inl ⟨rfl, rfl, by simp [eqV]⟩) dq_strs
theorem dt_S {ss : List Str} {x y : V} (hx : TupS K ss x H) (hy : TupS K ss y H) : DTup K (Dq K) x y H := by
  obtain ⟨a, rfl, s1⟩ := hx
  obtain ⟨b, rfl, s2⟩ := hy
  exact ⟨a, b, _, _, rfl, rfl, s1, s2, dq_strs⟩
theorem dt_C {s : Str} {i : Int} (hs : PyData.strOk s = true) {x y : V} (hx : ChW K s i x H) (hy : ChW K s i y H) : DTup K (Dq K) x y H := by
  obtain ⟨t, z, dz, rfl, s1, hz⟩ := hx
  obtain ⟨t2, y, dy, rfl, s2, hy⟩ := hy
  exact ⟨t, t2, _, _, rfl, rfl, s1, s2, Prs.cons (.inl ⟨rfl, rfl, by simp [eqV]⟩) (Prs.cons (.inr ⟨z, y, dz, dy, _, _, rfl, rfl, hz, hy, dz, dy, s, i, hs, hz, hy⟩) Prs.nil)⟩
end
end K42
set_option maxHeartbeats 0
/-! Readings of the law. -/
namespace TC
open PySem PySem.Spec PyProof.Rows L2 Evl
section
variable {p : Addr} {H H' : Hp}
/-- only p and what is new may differ -/
theorem ExX.mut {c : Addr} {o : HO} (x : ExX p H H') (hc : H c = none) : ExX p H (L2.upd H' c o) := fun a u n h => by
  rw [upd_ne (fun z => by rw [z, hc] at h; cases h)]
  exact x a u n h
end
end TC
namespace K42
open PySem PySem.Spec PyProof.Rows L2 He TC Evl LamX
/-- the pen p with its cells l, and the table of code objects -/
structure LS (Pt p l : Addr) (n : Nat) (H : Hp) : Prop where
  pen : Pen l n H p
  tab : H Pt = some (.tbl #[])
section
variable {Pt p l : Addr} {n m : Nat} {H H' : Hp} {K : PySem.W.Frag}
theorem Pen.dp (h : Pen l n H p) (x : ExX p H H') {v : V} {d : PyData} (hd : Dp K H v d) : Dp K H' v d := by
  obtain ⟨kvs, hk⟩ := h.isD
  exact Dp.exN hk True.intro x hd
theorem LS.ne (h : LS Pt p l n H) : Pt ≠ p := fun z => by
  obtain ⟨kvs, hk⟩ := h.pen.isD
  have t := h.tab
  rw [z, hk] at t
  cases t
theorem LS.ex (e : Ex H H') (h : LS Pt p l n H) : LS Pt p l n H' := ⟨h.pen.ex e, e _ _ h.tab⟩
theorem LS.x (x : ExX p H H') (pn : Pen l m H' p) (h : LS Pt p l n H) : LS Pt p l m H' := ⟨pn, x _ _ h.ne h.tab⟩
theorem LS.mono (h : LS Pt p l n H) (k : n ≤ m) : LS Pt p l m H := ⟨h.pen.mono k, h.tab⟩
theorem LS.dp (h : LS Pt p l n H) (x : ExX p H H') {v : V} {d : PyData} (hd : Dp K H v d) : Dp K H' v d := h.pen.dp x hd
theorem LS.lst (h : LS Pt p l n H) (x : ExX p H H') {c : Addr} {xs : List V} (hl : H c = some (.lst xs)) : H' c = some (.lst xs) := by
  obtain ⟨kvs, hk⟩ := h.pen.isD
  exact x _ _ (fun z => by rw [z, hk] at hl; cases hl) hl
theorem LS.ins (h : LS Pt p l n H) (x : ExX p H H') {a C dx : Addr} {fs : List (Str × V)} (hl : H a = some (.ins C dx fs)) : H' a = some (.ins C dx fs) := by
  obtain ⟨kvs, hk⟩ := h.pen.isD
  exact x _ _ (fun z => by rw [z, hk] at hl; cases hl) hl
theorem LS.tup (h : LS Pt p l n H) (x : ExX p H H') {a : Addr} {xs : List V} (hs : SqT K H a xs) : SqT K H' a xs := by
  obtain ⟨kvs, hk⟩ := h.pen.isD
  rcases hs with (h1 | ⟨o, h1⟩) | h1
  · exact .inl (.inl (x _ _ (fun z => by rw [z, hk] at h1; cases h1) h1))
  · exact .inl (.inr ⟨o, x _ _ (fun z => by rw [z, hk] at h1; cases h1) h1⟩)
  · exact .inr h1
theorem LS.ras (h : LS Pt p l n H) (x : ExX p H H') {ns : List Int} {xs : List V} (hr : RasA K ns xs H) : RasA K ns xs H' := ⟨hr.1, fun i y hy => by
  obtain ⟨z, dz, e1, h3⟩ := hr.2 i y hy
  exact ⟨z, dz, e1, h.ins x h3⟩⟩
theorem LS.po (h : LS Pt p l n H) (x : ExX p H H') {ns : List Int} {v : V} (hp : PoA K ns v H) : PoA K ns v H' := by
  obtain ⟨y, dx, t, lv, h1, h2, tp, xs, h3, h4, h5⟩ := hp
  exact ⟨y, dx, t, lv, h1, h.ins x h2, tp, xs, h3, h.tup x h4, h.ras x h5⟩
end
section
variable {w : World} {h0 base : Heap} {K : PySem.W.Frag} {mg : Str → Option Value} {σ : L2.St} {H : Hp} {te tx ta tb : TE} {t : L2.TT}
theorem rd_draw {p l : Addr} {n : Nat} {m : Int} {tP tM : TE} {Q : VK} (L : Pen l n H p) (hn : n ≤ 100000) (h0 : 0 < m) (h1 : m < 2 ^ 20) (hP : Ev tP σ H (.ref p)) (hM : Ev tM σ H (.int m))
    (k : ∀ d H', 0 ≤ d → d < m → ExX p H H' → Pen l (n + 1) H' p → Q (.int d) H') : tCall sp_law_draw [] E0 (tCons tP (tCons tM tNil)) σ H Q :=
  hP H (Ex.refl _) _ fun H2 e2 => hM H2 e2 _ fun H3 e3 => ⟨p, l, m, n, rfl, h0, h1, L.ex (e2.trans e3), hn, fun d H4 d0 d1 x4 pn => k d H4 d0 d1 ((ExX.of (e2.trans e3)).trans x4) pn⟩
theorem rd_adddraw {p l : Addr} {n : Nat} {m x : Int} {tA tP tM : TE} {Q : VK} (L : Pen l n H p) (hn : n ≤ 100000) (h0 : 0 < m) (h1 : m < 2 ^ 20) (hA : Ev tA σ H (.int x)) (hP : Ev tP σ H (.ref p)) (hM : Ev tM σ H (.int m))
    (k : ∀ d H', 0 ≤ d → d < m → ExX p H H' → Pen l (n + 1) H' p → Q (.int (x + d)) H') : tOp (rI0 fun i j => .int (i + j)) tA (tCall sp_law_draw [] E0 (tCons tP (tCons tM tNil))) σ H Q :=
  hA H (Ex.refl _) _ fun H1 e1 => hP H1 e1 _ fun H2 e2 => hM H2 (e1.trans e2) _ fun H3 e3 => ⟨p, l, m, n, rfl, h0, h1, L.ex ((e1.trans e2).trans e3), hn, fun d H4 d0 d1 x4 pn => ⟨x, d, rfl, rfl, k d H4 d0 d1 ((ExX.of ((e1.trans e2).trans e3)).trans x4) pn⟩⟩
theorem rd_listed {p l : Addr} {n : Nat} {b : Bool} {ds : List PyData} {x : V} {tP tL : TE} {Q : VK} (L : Pen l n H p) (hn : n ≤ 100000) (hP : Ev tP σ H (.ref p)) (hx : Ev tL σ H x) (hd : Dp K H x (seqD b ds))
    (k : ∀ v b' H', ExX p H H' → Pen l (n + 1) H' p → Dp K H' v (seqD b' ds) → Q v H') : tCall (sp_law_listed K) [] E0 (tCons tP (tCons tL tNil)) σ H Q :=
  hP H (Ex.refl _) _ fun H2 e2 => hx H2 e2 _ fun H3 e3 => ⟨p, l, n, b, x, ds, rfl, L.ex (e2.trans e3), hn, Dp.ex (e2.trans e3) hd, fun v b' H4 x4 pn hv => k v b' H4 ((ExX.of (e2.trans e3)).trans x4) pn hv⟩
theorem rd_pick {p l : Addr} {n : Nat} {ds : List PyData} {tP tL : TE} {Q : VK} (L : Pen l n H p) (hn : n ≤ 100000) (h0 : 0 < ds.length) (h1 : ds.length ≤ 1000) (hP : Ev tP σ H (.ref p)) (hL : EvP tL σ H (fun v H1 => Dp K H1 v (.list ds)))
    (k : ∀ d v H', d ∈ ds → ExX p H H' → Pen l (n + 1) H' p → Dp K H' v d → Q v H') : tCall (sp_law_pick K) [] E0 (tCons tP (tCons tL tNil)) σ H Q :=
  hP H (Ex.refl _) _ fun H2 e2 => hL H2 e2 _ fun v H3 e3 hv => by
    obtain ⟨a, xs, rfl, sq, da⟩ := Dp.seq_inv (b := false) hv
    have hl := DpAll.length da
    have L3 := L.ex (e2.trans e3)
    exact ⟨p, l, n, false, a, xs, rfl, L3, hn, sq, by omega, by omega, fun j v H4 hv x4 pn => by
      obtain ⟨d, h2, h3⟩ := DpAll.get da hv
      exact k d v H4 (List.mem_of_getElem? h2) ((ExX.of (e2.trans e3)).trans x4) pn (L3.dp x4 h3)⟩
/-- if draw(pen, m) == 0 -/
theorem s_drawIf {p l : Addr} {n : Nat} {m : Int} {tP tM : TE} {tu : TS} {D : Ends} (L : Pen l n H p) (hn : n ≤ 100000) (h0 : 0 < m) (h1 : m < 2 ^ 20) (hP : Ev tP σ H (.ref p)) (hM : Ev tM σ H (.int m))
    (k1 : ∀ H', ExX p H H' → Pen l (n + 1) H' p → tu D σ H') (k2 : ∀ H', ExX p H H' → Pen l (n + 1) H' p → D.nx σ H') : tIfS (tTest (tOp rEq (tCall sp_law_draw [] E0 (tCons tP (tCons tM tNil))) (tC (.int 0)))) tu tNext D σ H := by
  refine rd_draw L hn h0 h1 hP hM fun d H' d0 d1 x pn => ⟨rfl, _, rfl, ?_⟩
  show if decide (V.int d = V.int 0) = true then tu D σ H' else D.nx σ H'
  split
  · exact k1 H' x pn
  · exact k2 H' x pn
/-! Polys and Ratios compared -/
theorem et_neP (T : Wk h0 K mg base) {ns : List Int} (ha : EvP ta σ H (PoA K ns)) (hb : EvP tb σ H (PoA K ns)) : EvT (tTest (tOp (rOwn K (ga K "Poly") (sp_Poly_eq K) E0 true) ta tb)) σ H false := fun H1 ex Q q =>
  ha H1 ex _ fun x H2 e2 hx => hb H2 (ex.trans e2) _ fun y H3 e3 hy => by
    have hx3 := monPo _ _ _ e3 hx
    obtain ⟨x1, dx, t1, l1, rfl, h1, h1'⟩ := hx3
    have hy' := hy
    obtain ⟨y1, dy, t2, l2, rfl, h2, h2'⟩ := hy'
    exact ⟨x1, y1, dx, dy, _, _, _, rfl, rfl, h1, h2, c_Poly T, nfst T (q := ("Poly", "Poly")) (by decide), ⟨.ref x1, .ref y1, ns, rfl, ⟨x1, dx, t1, l1, rfl, h1, h1'⟩, hy, fun H4 e4 => ⟨true, rfl, false, rfl, q H4 ((e2.trans e3).trans e4)⟩⟩⟩
theorem et_neR (T : Wk h0 K mg base) {a b : Int} (ha : EvP ta σ H (RaA K a b)) (hb : EvP tb σ H (RaA K a b)) : EvT (tTest (tOp (rOwn K (ga K "Ratio") (sp_Ratio_eq K) E0 true) ta tb)) σ H false := fun H1 ex Q q =>
  ha H1 ex _ fun x H2 e2 hx => hb H2 (ex.trans e2) _ fun y H3 e3 hy => by
    obtain ⟨x1, dx, rfl, h1⟩ := monRa _ _ _ e3 hx
    obtain ⟨y1, dy, rfl, h2⟩ := hy
    refine ⟨x1, y1, dx, dy, _, _, _, rfl, rfl, h1, h2, c_Ratio T, nfst T (q := ("Ratio", "Ratio")) (by decide), ⟨x1, y1, dx, dy, a, b, a, b, rfl, h1, h2, fun H4 e4 => ⟨_, rfl, false, ?_, q H4 ((e2.trans e3).trans e4)⟩⟩⟩
    rw [decide_eq_true rfl, decide_eq_true rfl]
    rfl
theorem ep_kn {E : XK} {b : Bool} {ns : List Int} (h : EvP te σ H (fun v H1 => Dp K H1 v (seqD b (ns.map PyData.int)))) (hok : (okRow ns && (knB (cabOf ns).reverse 1 && prodB (knF (cabOf ns).reverse 1))) = true) : EvP (tCall (sp_knot_poly K) [] E (tCons te tNil)) σ H (PoA K (knL ns)) := by
  obtain ⟨h1, h2⟩ := ba hok
  obtain ⟨h2, h3⟩ := ba h2
  exact ep_callP (eap1 h) fun vs H1 e1 ⟨v, hv, hd⟩ => by
    subst hv
    exact fun H2 e2 Q q E => ⟨v, b, ns, rfl, Dp.ex e2 hd, h1, h2, h3, fun u H3 e3 hu => q u H3 e3 hu⟩
theorem mem2 {α : Type} {P Q R : α} (h : R ∈ [P, Q]) : R = P ∨ R = Q := by simpa using h
theorem ep_or {E : XK} {b : Bool} {n : Nat} {rest : List Nat} (h : EvP te σ H (fun v H1 => Dp K H1 v (seqD b ((iN (n :: rest)).map PyData.int)))) (R : RowB n rest) (hc : cn n rest ≤ 30000) : EvP (tCall (sp_orders_poly K) [] E (tCons te tNil)) σ H (PoA K (wz (ordL n rest (cn n rest).toNat))) :=
  ep_callP (eap1 h) fun vs H1 e1 ⟨v, hv, hd⟩ => by
    subst hv
    exact fun H2 e2 Q q E => ⟨v, b, n, rest, rfl, Dp.ex e2 hd, R, hc, fun u H3 e3 hu => q u H3 e3 hu⟩
theorem ep_PolyD {E : XK} {b : Bool} {ns : List Int} (h : EvP te σ H (fun v H1 => Dp K H1 v (seqD b (ns.map PyData.int)))) (hl : ns.length ≤ 40000) : EvP (tMake (ga K "Poly") (sp_Poly_init K) [] E (tCons te tNil)) σ H (PoA K (wz ns)) :=
  (ep_makeP (eap1 h) fun vs H1 e1 ⟨v, hv, hd⟩ => by
    subst hv
    obtain ⟨a, xs, rfl, sq, da⟩ := Dp.seq_inv hd
    have hx := DpAll.ints_inv da
    subst hx
    exact mk_Poly sq hl).imp fun v H1 _ ⟨x, ev, hx⟩ => ev ▸ hx
/-- told.numbers -/
theorem ev_nums (T : Wk h0 K mg base) {x dx tp : Addr} {d lv : V} (h : Ev te σ H (.ref x)) (hx : H x = some (.ins (ga K "Poly") dx [("numbers", .ref tp), ("degree", d), ("lead", lv)])) : Ev (tFld K te "numbers") σ H (.ref tp) := ev_fld h hx (c_Poly T) (n_Poly_numbers T) rfl
theorem ev_degr (T : Wk h0 K mg base) {x dx : Addr} {tv d lv : V} (h : Ev te σ H (.ref x)) (hx : H x = some (.ins (ga K "Poly") dx [("numbers", tv), ("degree", d), ("lead", lv)])) : Ev (tFld K te "degree") σ H d := ev_fld h hx (c_Poly T) (n_Poly_degree T) rfl
theorem ev_intB {b : Bool} (h : Ev te σ H (.bl b)) : Ev (tCB (fun xs H Q => (∃ i, xs = [.int i] ∧ Q (.int i) H) ∨ ∃ k, xs = [.bl k] ∧ Q (.int (if k then 1 else 0)) H) (tCons te tNil)) σ H (.int (bI b)) := fun H1 e Q q =>
  h H1 e _ fun H2 e2 => .inr ⟨b, rfl, by
    have : (if b then (1 : Int) else 0) = bI b := by cases b <;> rfl
    rw [this]
    exact q H2 e2⟩
theorem ev_isbool {i : Int} (h : Ev te σ H (.int i)) : Ev (tCB (rIsi K) (tCons te (tCons (tC (.ty "bool")) tNil))) σ H (.bl false) := by
  obtain ⟨b, c, h1, h2, h3⟩ := kit_int (K := K) (Dp.int (K := K) (H := H) i)
  have hc : c = false := by
    have : isIntD (.int i) = true := rfl
    rw [this] at h3
    cases c
    · rfl
    · cases b <;> cases h3
  subst hc
  exact ev_isi h (.ty _) (Dp.tyX (.int i)) h2
/-- _law_t_is(told, _law_t_knot(row)) -/
theorem ev_tis {tR : TE} {n : Nat} {rest : List Nat} {kl : List Int} {c : Nat} {tv : V} {ra : Addr} (F : Fine n rest kl c) (h : Ev te σ H tv) (hp : PoA K kl tv H) (hr : Ev tR σ H (.ref ra)) (sq : SqT K H ra ((iN (n :: rest)).map V.int)) : Ev (tCall (sp_law_t_is K) [] E0 (tCons te (tCons (tCall (fun vs H Q E => ∃ (a : Addr) (ns : List Int), vs = [.ref a] ∧ SqT K H a (ns.map V.int) ∧ okRow ns = true ∧ posR ns = true ∧ knB (cabOf ns).reverse 1 = true ∧ ∀ v H', Ex H H' → Dp K H' v (cabD false (knF (cabOf ns).reverse 1)) → Q v H') [] E0 (tCons tR tNil)) tNil))) σ H (.bl true) := fun H1 e Q q =>
  h H1 e _ fun H2 e2 => hr H2 (e.trans e2) _ fun H3 e3 => ⟨ra, _, rfl, ex_t ((e.trans e2).trans e3) sq, F.ok, F.po, F.kB, fun v H4 e4 hv => ⟨tv, v, kl, knG n rest, rfl, monPo _ _ _ (((e.trans e2).trans e3).trans e4) hp, by rw [F.len]; have := F.c9; omega, hv, by
      have hl : ∀ (ps : List (Int × Int)) e0, (knF ps e0).length = 4 * ps.length := fun ps => by
        induction ps with
        | nil => intro e0; rfl
        | cons p ps ih =>
          intro e0
          show (_ ++ knF ps (e0 * p.1)).length = _
          rw [List.length_append, ih]
          show 4 + 4 * ps.length = 4 * (ps.length + 1)
          omega
      have := (okRow_iff F.ok).len
      show (knF (cabOf (iN (n :: rest))).reverse 1).length ≤ 1000
      rw [hl, List.length_reverse]
      unfold cabOf
      rw [cabUp_len]
      omega, F.uB, F.lB, fun H5 e5 => by
        rw [decide_eq_true F.eI]
        exact q H5 (((e2.trans e3).trans e4).trans e5)⟩⟩
theorem el_orders {n : Nat} {rest : List Nat} {kl : List Int} {c : Nat} {ra : Addr} (F : Fine n rest kl c) (h : Ev ta σ H (.ref ra)) (h2 : Ev tb σ H (.int (c : Int))) (sq : SqT K H ra ((iN (n :: rest)).map V.int)) : EvL (tCall (sp_law_orders K) [] E0 (tCons ta (tCons tb tNil))) σ H ((htab (gens n rest) c).map V.bl) := fun H1 e Q q =>
  h H1 e _ fun H2 e2 => h2 H2 (e.trans e2) _ fun H3 e3 => ⟨ra, n, rest, c, rfl, ex_t ((e.trans e2).trans e3) sq, F.R, F.gd, F.po, by have := F.c9; omega, fun p H4 hp e4 h4 => q p H4 (fresh_back (e2.trans e3) hp) ((e2.trans e3).trans e4) h4⟩
theorem el_revL {xs : List V} (h : EvL te σ H xs) : EvL (tRevA K te) σ H xs.reverse := fun H1 e Q q =>
  h H1 e _ fun a H2 ha e2 h2 => ⟨false, a, xs, rfl, SqB.l (sq_of h2), fun p hp => q p _ (fresh_back e2 hp) (e2.trans (Ex.new hp)) upd_same⟩
theorem ras_rev {ns : List Int} {xs : List V} (hr : ns.reverse = ns) (h : RasA K ns xs H) : RasA K ns xs.reverse H := ⟨by rw [List.length_reverse]; exact h.1, fun i y hy => by
  have hi : i < xs.length := by have := (List.getElem?_eq_some_iff.mp hy).1; rw [List.length_reverse] at this; exact this
  rw [List.getElem?_reverse hi] at hy
  have h2 := h.2 _ y hy
  have hl := h.1
  have : ns.getD (xs.length - 1 - i) 0 = ns.getD i 0 := by
    conv => rhs; rw [← hr]
    rw [List.getD_eq_getElem?_getD, List.getD_eq_getElem?_getD, List.getElem?_reverse (by omega), hl]
  rw [this] at h2
  exact h2⟩
/-- [(item.top, item.bottom) for item in other.numbers] -/
def PrT (K : PySem.W.Frag) (a b : Int) : V → Hp → Prop := fun v H => ∃ t, v = .ref t ∧ SqT K H t [.int a, .int b]
theorem monL_PrT {a b : Int} : MonL (PrT K a b) := fun v H H' e ⟨t, h1, h2⟩ => ⟨t, h1, sqT_L e h2⟩
theorem dpAll_of : ∀ {ys : List V} {ns : List Int}, ys.length = ns.length → (∀ i y, ys[i]? = some y → PrT K (ns.getD i 0) 1 y H) → DpAll K H ys (ns.map fun n => prD (n, 1))
  | [], [], _, _ => .nil
  | [], _ :: _, h, _ => by simp at h
  | _ :: _, [], h, _ => by simp at h
  | y :: ys, n :: ns, h, ha => by
    obtain ⟨t, ey, ht⟩ := ha 0 y rfl
    subst ey
    exact .cons (pair_of (p := (n, 1)) ht) (dpAll_of (by simpa using h) fun i z hz => ha (i + 1) z hz)
theorem ep_pairsT {tl t1 t2 : TE} {j : Nat} {vs : List Nat} {b : Bool} {a : Addr} {xs : List V} {ns : List Int} (h : Ev tl σ H (.ref a)) (hx : SqB K H b a xs) (hl : xs.length = ns.length) (hz : ns.length ≤ 40000) (hw : ∀ x, wipe ((wipe σ vs).set j (some x)) vs = wipe σ vs)
    (he : ∀ (i : Nat) (x : V) H1, Ex H H1 → xs[i]? = some x → Ev t1 ((wipe σ vs).set j (some x)) H1 (.int (ns.getD i 0)) ∧ Ev t2 ((wipe σ vs).set j (some x)) H1 (.int 1)) : EvP (tLc (iAny K tl) (gName j) tYes (tTup (tCons t1 (tCons t2 tNil))) vs) σ H (fun v H1 => Dp K H1 v (.list (ns.map fun n => prD (n, 1)))) :=
  (ep_lcR (K := K) (R := fun i => PrT K (ns.getD i 0) 1) (b := b) (fun i => monL_PrT) h hx (by omega) hw (fun i x H1 e1 hx1 => by
    obtain ⟨h1, h2⟩ := he i x H1 e1 hx1
    exact (EvU.p (eu_tup (ea2 h1 h2) (by show (2 : Nat) ≤ 100000; decide))).imp fun v H2 e2 ⟨t, ev, ht⟩ => ⟨t, ev, st_of ht⟩)).imp fun v H1 _ ⟨p, ys, ev, hp, hyl, hys⟩ => by
      subst ev
      exact Dp.seq (b := false) (sq_of hp) (dpAll_of (by omega) hys)
theorem canLay_prs : ∀ (ns : List Int), PyData.canLayAll0 (ns.map fun n => prD (n, 1)) = true
  | [] => rfl
  | n :: ns => by
    show (PyData.canLay0 (prD (n, 1)) && PyData.canLayAll0 (ns.map fun n => prD (n, 1))) = true
    rw [canLay_prs ns]
    rfl
theorem depth_prs : ∀ (ns : List Int), PyData.depthAll (ns.map fun n => prD (n, 1)) ≤ 2
  | [] => by decide
  | n :: ns => by
    have := depth_prs ns
    show max (PyData.depth (prD (n, 1))) (PyData.depthAll (ns.map fun n => prD (n, 1))) ≤ 2
    have : PyData.depth (prD (n, 1)) ≤ 2 := by show PyData.depth (.tuple [.int n, .int 1]) ≤ 2; simp [PyData.depth, PyData.depthAll]
    omega
theorem shaped_prs {ns : List Int} : SeqAt.shaped (.list (ns.map fun n => prD (n, 1))) = true := shaped_seq (b := false) (canLay_prs ns) (Nat.le_trans (depth_prs ns) (by decide))
theorem eqv_prs : ∀ (ns : List Int), PyData.eqvAll (ns.map fun n => prD (n, 1)) (ns.map fun n => prD (n, 1)) = true
  | [] => rfl
  | n :: ns => by
    show (PyData.eqv (prD (n, 1)) (prD (n, 1)) && PyData.eqvAll (ns.map fun n => prD (n, 1)) (ns.map fun n => prD (n, 1))) = true
    rw [eqv_prs ns]
    simp [prD, PyData.eqv, PyData.eqvAll]
end
end K42
set_option maxHeartbeats 0
set_option pp.deepTerms false
set_option pp.maxSteps 400
/-! The walk: the law. -/
--FLDK
namespace K42
open PySem PySem.Spec PyProof.Rows L2 He TC Evl LamX
section
variable {w : World} {h0 base : Heap} {K : PySem.W.Frag} {mg : Str → Option Value}
def sp_law (K : PySem.W.Frag) (Pt : Addr) : Sp := fun vs H Q _ => ∃ (a : Addr) (ns : List Int), vs = [.ref a] ∧ SqL K H a (ns.map V.int) ∧ H Pt = some (.tbl #[]) ∧ ∀ H', Q (.bl true) H'
theorem ok_law (T : Wk h0 K mg base) {Pt c : Addr} (TB : TabB base mg c Pt) (hc : He.codeOf K ("law", none) = c) {fd : FuncData} (F : FunD K "law" "law" (defArgs s_law) (defBody s_law) (defScope s_law) [] [] (ga K "law") fd) : FnG PP w K mg base (L2.CX PP w) 14 (ga K "law") fd ["script"] (sp_law K Pt) := by
  refine TC.FunD.okG F sc_law (fun vs H Q E h => ?_) (fun cdv A outer s H vs Q E hcd hfd hr hg0 h => ?_)
  · obtain ⟨a, ns, rfl, _⟩ := h; rfl
  have hcode : (LX w K mg base cdv A outer s H E).env.code = .ref c := by
    obtain ⟨od, oc, osl, fd', lk, e⟩ := hfd
    obtain ⟨c', e'⟩ := He.codeIn_ref hcd
    have := He.codeOf_eq (p := ("law", none)) lk (e.trans e')
    show cdv = .ref c
    rw [e', ← hc]
    exact congrArg Value.ref this.symm
  obtain ⟨fh, hmh, kph, Fh⟩ := caught_all (w := w) T
  refine ⟨_, (pss_cons (ps_set (i := 1) sc_law.nd rfl (Or.inl rfl) (pe_cl (ok_law_pen T) hr (by decide) (by rfl) (pa_cons (pv 0) pa_nil))) (pss_cut (ps_for (passes_of rfl) rfl (pi_range1 (by rfl) (m_range T) (pa_cons (pe_int) pa_nil)) (pg_name (i := 2) sc_law.nd rfl (Or.inl rfl)) (pss_cons (ps_set (i := 3) sc_law.nd rfl (Or.inr rfl) (pe_cl (ok_law_g_rows T) hr (by decide) (by rfl) (pa_cons (pv 1) pa_nil))) (pss_cut (ps_if (pt_cmpR (op_eq) (pe_cl (ok_law_draw T) hr (by decide) (by rfl) (pa_cons (pv 1) (pa_cons (pe_int) pa_nil))) (pe_int) (nomark _)) (pss_cons (ps_par (i := 4) (j := 5) (by rfl) sc_law.nd rfl rfl (by decide) rfl rfl (pa_cons (pe_op op_add (pe_int) (pe_cl (ok_law_draw T) hr (by decide) (by rfl) (pa_cons (pv 1) (pa_cons (pe_int) pa_nil)))) (pa_cons (pe_op op_add (pe_int) (pe_cl (ok_law_draw T) hr (by decide) (by rfl) (pa_cons (pv 1) (pa_cons (pe_int) pa_nil)))) pa_nil)) (by rfl)) (pss_one (ps_set (i := 3) sc_law.nd rfl (Or.inr rfl) (pe_ifExp (PW.pt (pw_and (pt_cmpR (op_gt) (pv 5) (pv 4) (nomark _)) (pw_and1 (pt_cmpR (op_eq) (pe_cl (ok_law_g_gcd T) hr (by decide) (by rfl) (pa_cons (pv 5) (pa_cons (pv 4) pa_nil))) (pe_int) (nomark _))))) (pe_tup (pa_cons (pv 4) (pa_cons (pv 5) pa_nil))) (pv 3))))) pss_nil) (pss_cons (ps_par (i := 6) (j := 7) (by rfl) sc_law.nd rfl rfl (by decide) rfl rfl (pa_cons (pe_clX (ok_knot_poly T) hr (by decide) (passes_call (takes_of rfl rfl rfl rfl) (fun _ _ _ _ h => h)) (by rfl) (pa_cons (pe_cl (ok_law_listed T) hr (by decide) (by rfl) (pa_cons (pv 1) (pa_cons (pv 3) pa_nil))) pa_nil)) (pa_cons (pe_cl (ok_law_g_conductor T) hr (by decide) (by rfl) (pa_cons (pv 3) pa_nil)) pa_nil)) (by rfl)) (pss_cons (ps_if (PW.pt (pw_or (pt_not (pt_val (pe_cl (ok_law_t_is T) hr (by decide) (by rfl) (pa_cons (pv 6) (pa_cons (pe_cl (ok_law_t_knot T) hr (by decide) (by rfl) (pa_cons (pv 3) pa_nil)) pa_nil))))) (pw_or (pt_cmpR (op_ne) (pe_fldK (K := K) rfl (pv 6) rfl) (pv 7) (nomark _)) (pw_or1 (pt_val (pe_callB (call_isi1 (K := K) rfl) (by rfl) (m_isinstance T) boot_isinstance (pa_cons (pe_fldK (K := K) rfl (pv 6) rfl) (pa_cons (pe_bltn (v := .ty "bool") (by rfl) (m_bool T) (by decide +kernel) rfl) pa_nil)))))))) (pss_one (ps_ret (pe_bl))) pss_nil) (pss_cons (ps_set (i := 8) sc_law.nd rfl (Or.inr rfl) (pe_cl (ok_law_orders T) hr (by decide) (by rfl) (pa_cons (pv 3) (pa_cons (pv 7) pa_nil)))) (pss_cons (ps_setLc (i := 9) (own := [("k", 11)]) (g := gName 11) rfl sc_law.nd rfl rfl (sw_true rfl rfl rfl rfl) (pi_range1 (by rfl) (m_range T) (pa_cons (pe_op op_add (pv 7) (pe_int)) pa_nil)) (blkOk_by (N := N_law) (sc := defScope s_law) (by decide +kernel)) (fun _ _ _ _ _ => (pg_name (i := 11) sc_law.nd rfl (Or.inl rfl))) (fun _ _ _ _ _ => pts_nil) (fun _ _ _ _ _ => (pe_op op_sub (pe_callTy call_int1 (by rfl) (m_int T) (by decide +kernel) (pa_cons (pe_ix (ix_seqK (K := K) rfl) (pv 8) (pv 11) (fun _ _ => rfl)) pa_nil)) (pe_ifExp (pt_cmpR (op_gt) (pv 11) (pe_int) (nomark _)) (pe_callTy call_int1 (by rfl) (m_int T) (by decide +kernel) (pa_cons (pe_ix (ix_seqK (K := K) rfl) (pv 8) (pe_op op_sub (pv 11) (pe_int)) (fun _ _ => rfl)) pa_nil)) (pe_int))))) (pss_cons (ps_set (i := 10) sc_law.nd rfl (Or.inl rfl) (pe_clX (ok_orders_poly T) hr (by decide) (passes_call (takes_of rfl rfl rfl rfl) (fun _ _ _ _ h => h)) (by rfl) (pa_cons (pe_cl (ok_law_listed T) hr (by decide) (by rfl) (pa_cons (pv 1) (pa_cons (pv 3) pa_nil))) pa_nil))) (pss_cons (ps_if (PW.pt (pw_or (pt_cmpR (op_neD (hu64 hr)) (pe_lc (own := [("item", 15)]) (g := gName 15) rfl sc_law.nd (pi_any (pe_fldK (K := K) rfl (pv 10) rfl)) (blkOk_by (N := N_law) (sc := defScope s_law) (by decide +kernel)) (fun _ _ _ _ _ => (pg_name (i := 15) sc_law.nd rfl (Or.inl rfl))) (fun _ _ _ _ _ => pts_nil) (fun _ _ _ _ _ => (pe_tup (pa_cons (pe_fldK (K := K) rfl (pv 15) rfl) (pa_cons (pe_fldK (K := K) rfl (pv 15) rfl) pa_nil))))) (pe_lc (own := [("item", 15)]) (g := gName 15) rfl sc_law.nd (pi_any (pv 9)) (blkOk_by (N := N_law) (sc := defScope s_law) (by decide +kernel)) (fun _ _ _ _ _ => (pg_name (i := 15) sc_law.nd rfl (Or.inl rfl))) (fun _ _ _ _ _ => pts_nil) (fun _ _ _ _ _ => (pe_tup (pa_cons (pv 15) (pa_cons (pe_int) pa_nil))))) (nomark _)) (pw_or1 (pt_cmpR (op_neO (ok_Poly_eq T) (eqC T (by decide) (me_Poly_eq T)) hr (by decide)) (pv 10) (pv 6) (nomark _))))) (pss_one (ps_ret (pe_bl))) pss_nil) (pss_cons (ps_if (PW.pt (pw_or (pt_cmpR (opNeRa (w := w) T rfl rfl rfl rfl rfl hr (by decide)) (pe_callTy call_list_of (by rfl) (m_list T) (by decide +kernel) (pa_cons (pe_fldK (K := K) rfl (pv 6) rfl) pa_nil)) (pe_revA (pe_callTy call_list_of (by rfl) (m_list T) (by decide +kernel) (pa_cons (pe_fldK (K := K) rfl (pv 6) rfl) pa_nil))) (nomark _)) (pw_or1 (pt_cmpR (op_neO (ok_Ratio_eq T) (eqC T (by decide) (me_Ratio_eq T)) hr (by decide)) (pe_mtE (ok_Poly_at (w := w) T) hr (by decide) (c_Poly T) (me_Poly_at T) (pv 6) (pa_cons pe_int pa_nil)) (pe_mkd (ok_Ratio_init1 T) hr (by decide) (by rfl) (pa_cons (pe_int) pa_nil)) (nomark _))))) (pss_one (ps_ret (pe_bl))) pss_nil) (pss_one (ps_if (pt_cmpR (op_ne) (pe_op op_mul (pe_bm PySem.F.plainAttrs_list PySem.F.slot_list_count PySem.F.type_list_count (mt_lcountBK (K := K) rfl) (pv 8) (pa_cons pe_bl pa_nil)) (pe_int)) (pv 7) (nomark _)) (pss_one (ps_ret (pe_bl))) pss_nil)))))))))))) (pss_cons (ps_if (PW.pt (pw_or (pt_cmpR (op_neO (ok_Poly_eq T) (eqC T (by decide) (me_Poly_eq T)) hr (by decide)) (pe_clX (ok_knot_poly T) hr (by decide) (passes_call (takes_of rfl rfl rfl rfl) (fun _ _ _ _ h => h)) (by rfl) (pa_cons (pe_tup (pa_cons (pe_int) pa_nil)) pa_nil)) (pe_mkd (ok_Poly_init1 T) hr (by decide) (by rfl) (pa_cons (pe_tup (pa_cons (pe_int) pa_nil)) pa_nil)) (nomark _)) (pw_or (pt_cmpR (op_neO (ok_Poly_eq T) (eqC T (by decide) (me_Poly_eq T)) hr (by decide)) (pe_clX (ok_orders_poly T) hr (by decide) (passes_call (takes_of rfl rfl rfl rfl) (fun _ _ _ _ h => h)) (by rfl) (pa_cons (pe_lst (pa_cons (pe_int) pa_nil)) pa_nil)) (pe_mkd (ok_Poly_init1 T) hr (by decide) (by rfl) (pa_cons (pe_tup (pa_cons (pe_int) pa_nil)) pa_nil)) (nomark _)) (pw_or (pt_cmpR (op_neO (ok_Poly_eq T) (eqC T (by decide) (me_Poly_eq T)) hr (by decide)) (pe_clX (ok_knot_poly T) hr (by decide) (passes_call (takes_of rfl rfl rfl rfl) (fun _ _ _ _ h => h)) (by rfl) (pa_cons (pe_tup (pa_cons (pe_int) (pa_cons (pe_int) pa_nil))) pa_nil)) (pe_mkd (ok_Poly_init1 T) hr (by decide) (by rfl) (pa_cons (pe_tup (pa_cons (pe_int) (pa_cons (pe_un un_neg (pe_int)) (pa_cons (pe_int) pa_nil)))) pa_nil)) (nomark _)) (pw_or1 (pt_cmpR (op_neO (ok_Poly_eq T) (eqC T (by decide) (me_Poly_eq T)) hr (by decide)) (pe_clX (ok_knot_poly T) hr (by decide) (passes_call (takes_of rfl rfl rfl rfl) (fun _ _ _ _ h => h)) (by rfl) (pa_cons (pe_tup (pa_cons (pe_int) (pa_cons (pe_int) pa_nil))) pa_nil)) (pe_mkd (ok_Poly_init1 T) hr (by decide) (by rfl) (pa_cons (pe_tup (pa_cons (pe_int) (pa_cons (pe_un un_neg (pe_int)) (pa_cons (pe_int) (pa_cons (pe_int) (pa_cons (pe_int) (pa_cons (pe_un un_neg (pe_int)) (pa_cons (pe_int) pa_nil)))))))) pa_nil)) (nomark _))))))) (pss_one (ps_ret (pe_bl))) pss_nil) (pss_cons (ps_set (i := 11) sc_law.nd rfl (Or.inl rfl) (pe_op op_add (pe_int) (pe_cl (ok_law_draw T) hr (by decide) (by rfl) (pa_cons (pv 1) (pa_cons (pe_int) pa_nil))))) (pss_cons (ps_if (pt_cmpR (op_neO (ok_Poly_eq T) (eqC T (by decide) (me_Poly_eq T)) hr (by decide)) (pe_clX (ok_knot_poly T) hr (by decide) (passes_call (takes_of rfl rfl rfl rfl) (fun _ _ _ _ h => h)) (by rfl) (pa_cons (pe_tup (pa_cons (pe_int) (pa_cons (pe_op op_add (pe_op op_mul (pe_int) (pv 11)) (pe_int)) pa_nil))) pa_nil)) (pe_mkd (ok_Poly_init1 T) hr (by decide) (by rfl) (pa_cons (pe_lc (own := [("i", 16)]) (g := gName 16) rfl sc_law.nd (pi_range1 (by rfl) (m_range T) (pa_cons (pe_op op_add (pe_op op_mul (pe_int) (pv 11)) (pe_int)) pa_nil)) (blkOk_by (N := N_law) (sc := defScope s_law) (by decide +kernel)) (fun _ _ _ _ _ => (pg_name (i := 16) sc_law.nd rfl (Or.inl rfl))) (fun _ _ _ _ _ => pts_nil) (fun _ _ _ _ _ => (pe_op op_sub (pe_int) (pe_op op_mul (pe_int) (pe_callTy call_int1 (by rfl) (m_int T) (by decide +kernel) (pa_cons (pe_op op_mod (pv 16) (pe_int)) pa_nil)))))) pa_nil)) (nomark _)) (pss_one (ps_ret (pe_bl))) pss_nil) (pss_cons (ps_par (i := 12) (j := 13) (by rfl) sc_law.nd rfl rfl (by decide) rfl rfl (pa_cons (pe_cl (ok_law_pick T) hr (by decide) (by rfl) (pa_cons (pv 1) (pa_cons (pe_lst (pa_cons (pe_non) (pa_cons (pe_int) (pa_cons (pe_str) (pa_cons (pe_lst (pa_cons (pe_non) pa_nil)) (pa_cons (pe_tup (pa_cons (pe_bl) pa_nil)) pa_nil)))))) pa_nil))) (pa_cons (pe_cl (ok_law_pick T) hr (by decide) (by rfl) (pa_cons (pv 1) (pa_cons (pe_lst (pa_cons (pe_lst pa_nil) (pa_cons (pe_lst (pa_cons (pe_int) (pa_cons (pe_int) pa_nil))) (pa_cons (pe_tup (pa_cons (pe_int) (pa_cons (pe_int) pa_nil))) (pa_cons (pe_lst (pa_cons (pe_int) pa_nil)) pa_nil))))) pa_nil))) pa_nil)) (by rfl)) (pss_cut (ps_for (passes_of rfl) rfl (pi_any (pe_lst (pa_cons (pe_lambG TB hcode (List.mem_singleton.mpr rfl) (fun p hp _ => by rw [List.mem_singleton.mp hp]) (lamL_by (sc := defScope s_law) (by decide +kernel)) rfl) (pa_cons (pe_lambG TB hcode (List.mem_singleton.mpr rfl) (fun p hp _ => by rw [List.mem_singleton.mp hp]) (lamL_by (sc := defScope s_law) (by decide +kernel)) rfl) pa_nil)))) (pg_name (i := 14) sc_law.nd rfl (Or.inr rfl)) (pss_one (ps_for (passes_of rfl) rfl (pi_any (pe_lst (pa_cons (pe_tup (pa_cons (pv 12) (pa_cons (pe_tup (pa_cons (pe_str) (pa_cons (pe_callB (call_reprD hg0 (hu64 hr)) (by rfl) (m_repr T) boot_repr (pa_cons (pv 12) pa_nil)) pa_nil))) pa_nil))) (pa_cons (pe_tup (pa_cons (pv 13) (pa_cons (pe_tup (pa_cons (pe_str) (pa_cons (pe_clX (ok_settle_character T) hr (by decide) (passes_call (takes_of rfl rfl rfl rfl) (fun _ _ _ _ h => h)) (by rfl) (pa_cons (pv 13) pa_nil)) pa_nil))) pa_nil))) pa_nil)))) (pg_tup rfl (pgs_cons (pg_name (i := 3) sc_law.nd rfl (Or.inr rfl)) (pgs_cons (pg_name (i := 9) sc_law.nd rfl (Or.inl rfl)) pgs_nil))) (pss_one (ps_if (pt_cmpR (opNeQ (w := w) T rfl rfl rfl rfl rfl hr (by decide)) (pe_callB2 (fun _ => rfl) (hr.mono (by decide)) hg0 (by rfl) hmh kph Fh (pa_cons (pe_lamb TB hcode (List.mem_singleton.mpr rfl) (fun p hp _ => by rw [List.mem_singleton.mp hp]) (lamS_by (sc := defScope s_law) (by decide +kernel)) rfl) pa_nil)) (pv 9) (nomark _)) (pss_one (ps_ret (pe_bl))) pss_nil))))) (pss_one (ps_ret (pe_bl)))))))))), ?_⟩
  obtain ⟨a, ns0, rfl, sq, hPt, hQ⟩ := h
  refine q_asgCall (ea1 (ev_var rfl)) fun H1 e1 => ⟨a, ns0, rfl, ex_l e1 sq, fun p l H2 e2 np pn => ?_⟩
  have Lz : LS Pt p l 0 H2 := ⟨pn, (e1.trans e2) _ _ hPt⟩
  clear pn np
  refine q_cut (M := fun σ' H' => ∃ (x2 x3 x4 x5 x6 x7 x8 x9 x10 : Option V), σ' = [some (.ref a), some (.ref p), x2, x3, x4, x5, x6, x7, x8, x9, x10, none, none, none, none, none, none] ∧ LS Pt p l 100 H') ?_ ?_
  · refine s_forR1 (n := 3) (ea1 ev_c) ⟨by decide, by decide⟩ (fun i σ' H' => ∃ (x2 x3 x4 x5 x6 x7 x8 x9 x10 : Option V), σ' = [some (.ref a), some (.ref p), x2, x3, x4, x5, x6, x7, x8, x9, x10, none, none, none, none, none, none] ∧ LS Pt p l (20 * i) H')
      (fun H4 e4 => ⟨none, none, none, none, none, none, none, none, none, rfl, Lz.ex e4⟩) (fun lap σ' H4 hlap ⟨x2, x3, x4, x5, x6, x7, x8, x9, x10, es, L4⟩ => ?_) (fun σ' H4 ⟨x2, x3, x4, x5, x6, x7, x8, x9, x10, es, L4⟩ => ⟨x2, x3, x4, x5, x6, x7, x8, x9, x10, es, L4.mono (by omega)⟩)
    subst es
    have hlap' : lap < 3 := by omega
    refine q_asgCall (ea1 (ev_var rfl)) fun H5 e5 => ⟨p, l, 20 * lap, rfl, (L4.ex e5).pen, by omega, fun ns v H6 hns x6' pn6 hv6 => ?_⟩
    have L6 : LS Pt p l (20 * lap + 1) H6 := (L4.ex e5).x x6' pn6
    obtain ⟨n, rest, kl, c, rfl, F⟩ := fine_row hns
    obtain ⟨ra, rfl, sq6⟩ := tup_ints_inv hv6
    clear L4
    refine q_cut (M := fun σ' H' => ∃ (x4 x5 : Option V) (ra : Addr) (n : Nat) (rest : List Nat) (kl : List Int) (c : Nat), σ' = [some (.ref a), some (.ref p), some (.int (lap : Int)), some (.ref ra), x4, x5, x6, x7, x8, x9, x10, none, none, none, none, none, none] ∧ LS Pt p l (20 * lap + 4) H' ∧ SqT K H' ra ((iN (n :: rest)).map V.int) ∧ Fine n rest kl c) ?_ ?_
    · refine s_drawIf (m := 3) L6.pen (by omega) (by decide) (by decide) (ev_var rfl) ev_c (fun H7 x7' pn7 => ?_) (fun H7 x7' pn7 => ⟨_, _, ra, n, rest, kl, c, rfl, (L6.x x7' pn7).mono (by omega), L6.tup x7' sq6, F⟩)
      have L7 := L6.x x7' pn7
      have sq7 := L6.tup x7' sq6
      refine rd_adddraw (x := 2) (m := 6) L7.pen (by omega) (by decide) (by decide) ev_c (ev_var rfl) ev_c fun d H8 d0 d1 x8' pn8 => ?_
      have L8 := L7.x x8' pn8
      have sq8 := L7.tup x8' sq7
      refine rd_adddraw (x := 3) (m := 20) L8.pen (by omega) (by decide) (by decide) ev_c (ev_var rfl) ev_c fun d' H9 d0' d1' x9' pn9 => ⟨_, _, rfl, ?_⟩
      have L9 := L8.x x9' pn9
      have sq9 := L8.tup x9' sq8
      obtain ⟨x, rfl⟩ : ∃ x : Nat, d = (x : Int) := ⟨d.toNat, by omega⟩
      obtain ⟨y, rfl⟩ : ∃ y : Nat, d' = (y : Int) := ⟨d'.toNat, by omega⟩
      refine s_asgP (P := fun v H1 => ∃ (ra : Addr) (n : Nat) (rest : List Nat) (kl : List Int) (c : Nat), v = .ref ra ∧ SqT K H1 ra ((iN (n :: rest)).map V.int) ∧ Fine n rest kl c) (ep_if (b := decide ((3 : Int) + (y : Int) > 2 + (x : Int)) && decide (V.int ((Nat.gcd (3 + y) (2 + x) : Nat) : Int) = V.int 1)) (et_and (et_test (ev_op (ev_var rfl) (ev_var rfl) rv_I0)) (fun _ => et_test (ev_op (x := .int ((Nat.gcd (3 + y) (2 + x) : Nat) : Int)) (y := .int 1) ?_ ev_c (rv_eq rfl)))) (fun hy => ?_) (fun hn => ?_)) fun v H10 e10 ⟨ra, n, rest, kl, c, ev, hsq, F⟩ => ?_
      · refine EvP.ev ((ep_call (P := fun v _ => ∃ r : Int, v = .int r ∧ r.natAbs = Nat.gcd (3 + y) (2 + x) ∧ 0 ≤ r) (ea2 (ev_var rfl) (ev_var rfl)) fun H2 e2 Q q E => ⟨3 + (y : Int), 2 + (x : Int), rfl, by omega, fun r H3 e3 h1 h2 => q _ H3 e3 ⟨r, rfl, by
          rw [h1]
          congr 1 <;> omega, h2 (by omega)⟩⟩).imp fun v H2 _ ⟨r, ev, h1, h2⟩ => ?_)
        subst ev
        congr 1
        omega
      · obtain ⟨h1, h2⟩ := ba hy
        have h1 := of_decide_eq_true h1
        have h2 : Nat.gcd (3 + y) (2 + x) = 1 := by
          have h3 := of_decide_eq_true h2
          injection h3 with h3
          omega
        obtain ⟨kl, c, F⟩ := fine_pair (x := x) (y := y) (by omega) (by omega) (by omega) h2
        refine (EvU.p (eu_tup (ea2 (v := .int (2 + (x : Int))) (w := .int (3 + (y : Int))) (ev_var rfl) (ev_var rfl)) (by show (2 : Nat) ≤ 100000; decide))).imp fun v H1 _ ⟨t, ev, ht⟩ => ⟨t, 2 + x, [3 + y], kl, c, ev, ?_, F⟩
        have e9 : (iN ((2 + x) :: [3 + y])).map V.int = [V.int (2 + (x : Int)), V.int (3 + (y : Int))] := by
          show [V.int ((2 + x : Nat) : Int), V.int ((3 + y : Nat) : Int)] = _
          rw [Int.natCast_add, Int.natCast_add]
          rfl
        rw [e9]
        exact st_of ht
      · exact (Ev.p (ev_var rfl)).imp fun v H1 e ev => ⟨ra, n, rest, kl, c, ev, ex_t e sq9, F⟩
      · subst ev
        exact ⟨_, _, ra, n, rest, kl, c, rfl, (L9.ex e10).mono (by omega), hsq, F⟩
    clear hns hv6 L6 sq6 F
    clear ra n rest kl c
    rintro σ' H7 ⟨x4', x5', ra, n, rest, kl, c, rfl, L7, sq7, F⟩
    have hc9 := F.c9
    have hrd7 : Dp K H7 (.ref ra) (seqD true ((iN (n :: rest)).map PyData.int)) := Dp.tup sq7 DpAll.ints
    refine rd_listed (b := true) L7.pen (by omega) (ev_var rfl) (ev_var rfl) hrd7 fun v1 b1 H8 x8' pn8 hv8 => ⟨v1, b1, _, rfl, hv8, F.ok, F.kB, F.pB, fun tv H9 e9 htv => ?_⟩
    have L9 := (L7.x x8' pn8).ex e9
    have sq9 := ex_t e9 (L7.tup x8' sq7)
    rw [F.eK] at htv
    refine ⟨.ref ra, rfl, ra, _, rfl, sq9, F.ok, F.po, fun H10 e10 => ⟨_, _, rfl, ?_⟩⟩
    rw [F.con]
    have L10 := L9.ex e10
    have sq10 := ex_t e10 sq9
    have ht10 := monPo _ _ _ e10 htv
    clear L7 sq7 hrd7 L9 sq9 htv
    obtain ⟨tx, dx, tt, lv, rfl, htx, htt⟩ := id ht10
    refine q_when (b := !true || ((!decide (V.int ((kl.length : Int) - 1) = V.int (c : Int))) || false)) (et_or (et_not (et_B (ev_tis F (ev_var rfl) ht10 (ev_var rfl) sq10))) (fun _ => et_or (et_test (ev_op (ev_degr T (ev_var rfl) htx) (ev_var rfl) (rv_ne rfl))) (fun _ => et_B (ev_isbool (ev_degr T (ev_var rfl) htx))))) (fun hb => ?_) (fun _ H11 e11 => ?_)
    · have : ((kl.length : Int) - 1) = (c : Int) := by rw [F.len]; omega
      rw [this, decide_eq_true rfl] at hb
      cases hb
    have L11 := L10.ex e11
    have sq11 := ex_t e11 sq10
    have ht11 := monPo _ _ _ e11 ht10
    clear L10 sq10 ht10 htx htt
    refine q_asgL (xs := (htab (gens n rest) c).map V.bl) (el_orders F (ev_var rfl) (ev_var rfl) sq11) fun th H12 hth e12 hth12 => ?_
    have L12 := L11.ex e12
    have sq12 := ex_t e12 sq11
    have ht12 := monPo _ _ _ e12 ht11
    clear L11 sq11 ht11
    have hlt : (htab (gens n rest) c).length = c + 1 := htab_len _ _
    have thAt : ∀ {σ : L2.St} {H' : Hp} {te : TE} {k : Nat}, Ex H12 H' → σ[8]? = some (some (.ref th)) → Ev te σ H' (.int (k : Int)) → k ≤ c → Ev (tOp (rIxA K) (tVar 8) te) σ H' (.bl (bH n rest c k)) := fun {σ H' te k} e h8 h hk => ev_ixA (b := false) (ev_var h8) h (SqB.l (sq_of (e _ _ hth12))) (atI_n (bl_at (by omega)))
    refine q_asgL (xs := kl.map V.int) ?_ fun du H13 hdu e13 hdu13 => ?_
    · have hlc := el_lcR1 (σ := [some (.ref a), some (.ref p), some (.int (lap : Int)), some (.ref ra), x4', x5', some (.ref tx), some (.int (c : Int)), some (.ref th), x9, x10, none, none, none, none, none, none]) (H := H12) (n := ((c + 1 : Nat) : Int)) (j := 11) (vs := [11]) (ta := tCons (tOp (rI0 fun i j => .int (i + j)) (tVar 7) (tC (.int 1))) tNil) (t := tYes) (te := tOp (rI0 fun i j => .int (i - j)) (tCB (fun xs H Q => (∃ i, xs = [.int i] ∧ Q (.int i) H) ∨ ∃ k, xs = [.bl k] ∧ Q (.int (if k then 1 else 0)) H) (tCons (tOp (rIxA K) (tVar 8) (tVar 11)) tNil)) (tIf (tTest (tOp (rI0 fun i j => .bl (decide (i > j))) (tVar 11) (tC (.int 0)))) (tCB (fun xs H Q => (∃ i, xs = [.int i] ∧ Q (.int i) H) ∨ ∃ k, xs = [.bl k] ∧ Q (.int (if k then 1 else 0)) H) (tCons (tOp (rIxA K) (tVar 8) (tOp (rI0 fun i j => .int (i - j)) (tVar 11) (tC (.int 1)))) tNil)) (tC (.int 0)))) (fun _ => true) (fun k => .int (pT n rest k - (if k = 0 then 0 else pT n rest (k - 1)))) (ea1 (ev_is (ev_op (ev_var rfl) ev_c rv_I0) (by congr 1))) ⟨by omega, by omega⟩ (fun _ => rfl) (fun i H1 _ _ => fun H2 _ Q q => q H2 (Ex.refl H2)) (fun i H1 e1 hi _ => ?_)
      · rw [Int.toNat_natCast, given_all] at hlc
        have e0 : (List.range (c + 1)).map (fun k => V.int (pT n rest k - (if k = 0 then 0 else pT n rest (k - 1)))) = kl.map V.int := by
          rw [← F.ord]
          unfold ordL
          rw [List.map_map]
          rfl
        rw [e0] at hlc
        exact hlc
      · have hi' : i < c + 1 := by omega
        refine ev_op (x := .int (pT n rest i)) (y := .int (if i = 0 then 0 else pT n rest (i - 1))) (ev_is (ev_intB (thAt e1 rfl (ev_var rfl) (by omega))) (by rw [bH_eq F.R (by omega)])) (ev_if (b := decide ((i : Int) > 0)) (et_test (ev_op (ev_var rfl) ev_c rv_I0)) (fun hy => ?_) (fun hn => ?_)) rv_I0
        · have hy := of_decide_eq_true hy
          rw [if_neg (show ¬ (i = 0) by omega)]
          exact ev_is (ev_intB (thAt (k := i - 1) e1 rfl (ev_is (ev_op (ev_var rfl) ev_c rv_I0) (by congr 1; omega)) (by omega))) (by rw [bH_eq F.R (by omega)])
        · have hn := of_decide_eq_false hn
          rw [if_pos (show i = 0 by omega)]
          exact ev_c
    have L13 := L12.ex e13
    have sq13 := ex_t e13 sq12
    have ht13 := monPo _ _ _ e13 ht12
    have hth13 := e13 _ _ hth12
    clear L12 sq12 ht12 hth12 thAt
    have hrd13 : Dp K H13 (.ref ra) (seqD true ((iN (n :: rest)).map PyData.int)) := Dp.tup sq13 DpAll.ints
    refine rd_listed (b := true) L13.pen (by omega) (ev_var rfl) (ev_var rfl) hrd13 fun v2 b2 H14 x14' pn14 hv14 => ⟨v2, b2, n, rest, rfl, hv14, F.R, by rw [F.eC]; omega, fun ov H15 e15 hov => ?_⟩
    rw [F.eC, Int.toNat_natCast, F.ord, F.eW] at hov
    have L15 := (L13.x x14' pn14).ex e15
    have ht15 := monPo _ _ _ e15 (L13.po x14' ht13)
    have hth15 := e15 _ _ (L13.lst x14' hth13)
    have hdu15 := e15 _ _ (L13.lst x14' hdu13)
    clear L13 sq13 ht13 hth13 hdu13 hrd13
    obtain ⟨tx2, dx2, tp, lv2, etx, htx, htt⟩ := id ht15
    cases etx
    obtain ⟨tp, txs, rfl, hts, htr⟩ := htt
    obtain ⟨ox, dox, ot, olv, rfl, hox, hot⟩ := id hov
    obtain ⟨op, oxs, rfl, hos, hor⟩ := hot
    have hkl : kl.length ≤ 1000 := by rw [F.len]; omega
    refine q_when (b := !PyData.eqv (.list (kl.map fun n => prD (n, 1))) (.list (kl.map fun n => prD (n, 1))) || false) (et_or (et_test (ep_neD (ep_pairsT (K := K) (b := true) (ns := kl) (ev_nums T (ev_var rfl) hox) (SqB.t hos) hor.1 (by omega) (fun _ => rfl) (fun i x H1 e1 hx => ?_)) (ep_pairsT (K := K) (b := false) (ns := kl) (ev_var rfl) (SqB.l (sq_of hdu15)) (by rw [List.length_map]) (by omega) (fun _ => rfl) (fun i x H1 e1 hx => ?_)) shaped_prs shaped_prs)) (fun _ => et_neP T ((Ev.p (ev_var rfl)).imp fun v H1 e ev => ev ▸ monPo _ _ _ e hov) ((Ev.p (ev_var rfl)).imp fun v H1 e ev => ev ▸ monPo _ _ _ e ht15))) (fun hb => ?_) (fun _ H16 e16 => ?_)
    · obtain ⟨r, dr, rfl, hr⟩ := hor.2 i x hx
      exact ⟨ev_fld (ev_var rfl) (e1 _ _ hr) (c_Ratio T) (n_Ratio_top T) rfl, ev_fld (ev_var rfl) (e1 _ _ hr) (c_Ratio T) (n_Ratio_bottom T) rfl⟩
    · obtain ⟨k, hk, rfl⟩ := at_ints hx
      have ek : kl.getD i 0 = k := sN_at hk
      rw [ek]
      exact ⟨ev_var rfl, ev_c⟩
    · have h1 : PyData.eqv (.list (kl.map fun n => prD (n, 1))) (.list (kl.map fun n => prD (n, 1))) = true := eqv_prs kl
      rw [h1] at hb
      cases hb
    have L16 := L15.ex e16
    have ht16 := monPo _ _ _ e16 ht15
    have hth16 := e16 _ _ hth15
    have htx16 := e16 _ _ htx
    have hts16 := ex_t e16 hts
    have htr16 := htr.ex e16
    clear L15 ht15 hth15 htx hts htr hdu15 hox hos hor hov
    have htl := htr16.1
    refine q_when (b := false || false) (et_or (et_test ?_) (fun _ => et_neR T (a := 1) (b := 1) ?_ (ep_Ratio1 ev_c))) (fun hb => by cases hb) (fun _ H17 e17 => ?_)
    · refine fun H1 e Q q => (el_listOf (b := true) (xs := txs) (ev_nums T (ev_var rfl) htx16) (SqB.t hts16)) H1 e _ fun p1 H2 hp1 e2 h2 => (el_revL (el_listOf (b := true) (xs := txs) (ev_nums T (ev_var rfl) htx16) (SqB.t hts16))) H2 (e.trans e2) _ fun p2 H3 hp2 e3 h3 => ⟨⟨p1, p2, txs, txs.reverse, rfl, rfl, e3 _ _ h2, h3, ras_prs (ns := kl) (htr16.ex ((e.trans e2).trans e3)) (ras_rev F.rev (htr16.ex ((e.trans e2).trans e3)))⟩, fun H4 e4 => q H4 ((e2.trans e3).trans e4)⟩
    · refine fun H1 e Q q => (ev_var (i := 6) (v := .ref tx) rfl) H1 e _ fun H2 e2 => ⟨tx, _, _, rfl, (e.trans e2) _ _ htx16, rfl, .ref tx, kl, rfl, monPo _ _ _ (e.trans e2) ht16, by omega, fun v H3 e3 hv => q v H3 (e2.trans e3) (by rw [F.sum] at hv; exact hv)⟩
    have L17 := L16.ex e17
    have hth17 := e17 _ _ hth16
    refine s_when (b := !decide (V.int (c : Int) = V.int (c : Int))) (et_test (ev_op (x := .int (c : Int)) (y := .int (c : Int)) (ev_is (ev_op (x := .int (((htab (gens n rest) c).count false : Nat) : Int)) (y := .int 2) ?_ ev_c (rv_I (cmul (.inr ⟨by decide, by decide⟩)))) ?_) (ev_var rfl) (rv_ne rfl))) (fun hb => ?_) (fun _ H18 e18 => ?_)
    · exact fun H1 e Q q => ⟨.ref th, rfl, (.inl ⟨rfl, _, sq_of (e _ _ hth17)⟩), th, _, false, rfl, rfl, sq_of (e _ _ hth17), q H1 (Ex.refl H1)⟩
    · have := F.half
      congr 1
      omega
    · rw [decide_eq_true rfl] at hb
      cases hb
    · exact ⟨_, _, _, _, _, _, _, _, _, rfl, (L17.ex e18).mono (by omega)⟩
  rintro σ' H3 ⟨x2, x3, x4, x5, x6, x7, x8, x9, x10, rfl, L3⟩
  have kd : ∀ {b : Bool} {ns : List Int} {σ : L2.St} {H : Hp} {ta : TA}, (h : EvAD K ta σ H (ns.map PyData.int)) → ns.length ≤ 100 → EvP (if b = true then tTup ta else tLst ta) σ H (fun v H1 => Dp K H1 v (seqD b (ns.map PyData.int))) := fun {b ns σ H ta} h hl => by
    cases b with
    | true => exact epD_tup h (by rw [List.length_map]; omega)
    | false => exact epD_lst h (by rw [List.length_map]; omega)
  have n1 : ∀ {σ : L2.St} {H : Hp} {i : Int}, EvP (tUn (rU fun i => .int (-i)) (tC (.int i))) σ H (fun v H1 => Dp K H1 v (.int (-i))) := fun {σ H i} => (Ev.p (ev_un ev_c ru_neg)).imp fun v H1 _ ev => ev ▸ Dp.int _
  have e1 : ∀ {σ : L2.St} {H : Hp} {i : Int}, EvP (tC (.int i)) σ H (fun v H1 => Dp K H1 v (.int i)) := fun {σ H i} => epD_int
  refine q_when (b := false || (false || (false || false))) (et_or (et_neP T (ns := [1]) ?_ ?_) (fun _ => et_or (et_neP T (ns := [1]) ?_ ?_) (fun _ => et_or (et_neP T (ns := [1, -1, 1]) ?_ ?_) (fun _ => et_neP T (ns := [1, -1, 0, 1, 0, -1, 1]) ?_ ?_)))) (fun hb => by cases hb) (fun _ H4 e4 => ?_)
  · have := ep_kn (K := K) (E := E) (σ := [some (.ref a), some (.ref p), x2, x3, x4, x5, x6, x7, x8, x9, x10, none, none, none, none, none, none]) (H := H3) (kd (b := true) (ns := [1]) (ead_cons e1 ead_nil) (by decide)) kn1.1
    rw [kn1.2] at this
    exact this
  · have := ep_PolyD (K := K) (E := E0) (σ := [some (.ref a), some (.ref p), x2, x3, x4, x5, x6, x7, x8, x9, x10, none, none, none, none, none, none]) (H := H3) (kd (b := true) (ns := [1]) (ead_cons e1 ead_nil) (by decide)) (by decide)
    rw [wz_c.1] at this
    exact this
  · have := ep_or (K := K) (E := E) (n := 1) (rest := []) (σ := [some (.ref a), some (.ref p), x2, x3, x4, x5, x6, x7, x8, x9, x10, none, none, none, none, none, none]) (H := H3) (kd (b := false) (ns := iN [1]) (ead_cons e1 ead_nil) (by decide)) (rowB_iff or1.1) (by rw [or1.2.1]; decide)
    rw [or1.2.1] at this
    have h2 : wz (ordL 1 [] (Int.toNat 0)) = [1] := or1.2.2
    rw [h2] at this
    exact this
  · have := ep_PolyD (K := K) (E := E0) (σ := [some (.ref a), some (.ref p), x2, x3, x4, x5, x6, x7, x8, x9, x10, none, none, none, none, none, none]) (H := H3) (kd (b := true) (ns := [1]) (ead_cons e1 ead_nil) (by decide)) (by decide)
    rw [wz_c.1] at this
    exact this
  · have := ep_kn (K := K) (E := E) (σ := [some (.ref a), some (.ref p), x2, x3, x4, x5, x6, x7, x8, x9, x10, none, none, none, none, none, none]) (H := H3) (kd (b := true) (ns := [2, 3]) (ead_cons e1 (ead_cons e1 ead_nil)) (by decide)) kn23.1
    rw [kn23.2] at this
    exact this
  · have := ep_PolyD (K := K) (E := E0) (σ := [some (.ref a), some (.ref p), x2, x3, x4, x5, x6, x7, x8, x9, x10, none, none, none, none, none, none]) (H := H3) (kd (b := true) (ns := [1, -1, 1]) (ead_cons e1 (ead_cons n1 (ead_cons e1 ead_nil))) (by decide)) (by decide)
    rw [wz_c.2.1] at this
    exact this
  · have := ep_kn (K := K) (E := E) (σ := [some (.ref a), some (.ref p), x2, x3, x4, x5, x6, x7, x8, x9, x10, none, none, none, none, none, none]) (H := H3) (kd (b := true) (ns := [3, 4]) (ead_cons e1 (ead_cons e1 ead_nil)) (by decide)) kn34.1
    rw [kn34.2] at this
    exact this
  · have := ep_PolyD (K := K) (E := E0) (σ := [some (.ref a), some (.ref p), x2, x3, x4, x5, x6, x7, x8, x9, x10, none, none, none, none, none, none]) (H := H3) (kd (b := true) (ns := [1, -1, 0, 1, 0, -1, 1]) (ead_cons e1 (ead_cons n1 (ead_cons e1 (ead_cons e1 (ead_cons e1 (ead_cons n1 (ead_cons e1 ead_nil))))))) (by decide)) (by decide)
    rw [wz_c.2.2] at this
    exact this
  have L4 := L3.ex e4
  clear L3
  refine rd_adddraw (x := 1) (m := 9) L4.pen (by omega) (by decide) (by decide) ev_c (ev_var rfl) ev_c fun d H5 d0 d1 x5' pn5 => ?_
  have L5 := L4.x x5' pn5
  obtain ⟨k, hk, hk0, hk1⟩ : ∃ k : Nat, 1 + d = (k : Int) ∧ 1 ≤ k ∧ k < 10 := ⟨(1 + d).toNat, by omega, by omega, by omega⟩
  rw [hk]
  clear L4 x5' pn5
  obtain ⟨kA, kB, kC⟩ := kn2k k hk1 hk0
  unfold gName
  dsimp only
  refine q_when (b := false) (et_neP T (ns := torL k) ?_ ?_) (fun hb => by cases hb) (fun _ H6 e6 => ?_)
  · have := ep_kn (K := K) (E := E) (σ := [some (.ref a), some (.ref p), x2, x3, x4, x5, x6, x7, x8, x9, x10, some (.int (k : Int)), none, none, none, none, none]) (H := H5) (te := tTup (tCons (tC (.int 2)) (tCons (tOp (rI0 fun i j => .int (i + j)) (tOp (rI CMul fun i j => .int (i * j)) (tC (.int 2)) (tVar 11)) (tC (.int 1))) tNil))) (b := true) (ns := [2, 2 * (k : Int) + 1]) (epD_tup (ead_cons e1 (ead_cons ((Ev.p (ev_op (x := .int (2 * (k : Int))) (y := .int 1) (ev_op (x := .int 2) (y := .int (k : Int)) ev_c (ev_var rfl) (rv_I (cmul (.inl ⟨by decide, by decide⟩)))) ev_c rv_I0)).imp fun v H1 _ ev => ev ▸ Dp.int _) ead_nil)) (by show 2 ≤ 100000; decide)) kA
    rw [kB] at this
    exact this
  · have hlc := el_lcR1 (σ := [some (.ref a), some (.ref p), x2, x3, x4, x5, x6, x7, x8, x9, x10, some (.int (k : Int)), none, none, none, none, none]) (H := H5) (n := ((2 * k + 1 : Nat) : Int)) (j := 16) (vs := [16]) (ta := tCons (tOp (rI0 fun i j => .int (i + j)) (tOp (rI CMul fun i j => .int (i * j)) (tC (.int 2)) (tVar 11)) (tC (.int 1))) tNil) (t := tYes) (te := tOp (rI0 fun i j => .int (i - j)) (tC (.int 1)) (tOp (rI CMul fun i j => .int (i * j)) (tC (.int 2)) (tCB (fun xs H Q => (∃ i, xs = [.int i] ∧ Q (.int i) H) ∨ ∃ k, xs = [.bl k] ∧ Q (.int (if k then 1 else 0)) H) (tCons (tOp (rI (fun _ j => 0 < j) fun i j => .int (i % j)) (tVar 16) (tC (.int 2))) tNil)))) (fun _ => true) (fun i => .int (1 - 2 * ((i : Int) % 2))) (ea1 (ev_is (ev_op (x := .int (2 * (k : Int))) (y := .int 1) (ev_op (x := .int 2) (y := .int (k : Int)) ev_c (ev_var rfl) (rv_I (cmul (.inl ⟨by decide, by decide⟩)))) ev_c rv_I0) (by congr 1))) ⟨by omega, by omega⟩ (fun _ => rfl) (fun i H1 _ _ => fun H2 _ Q q => q H2 (Ex.refl H2)) (fun i H1 e1 hi _ => ev_op (x := .int 1) (y := .int (2 * ((i : Int) % 2))) ev_c (ev_op (x := .int 2) (y := .int ((i : Int) % 2)) ev_c (ev_int1 (ev_op (ev_var rfl) ev_c (rv_I (by decide)))) (rv_I (cmul (.inl ⟨by decide, by decide⟩)))) rv_I0)
    rw [Int.toNat_natCast, given_all] at hlc
    have e0 : (List.range (2 * k + 1)).map (fun i : Nat => V.int (1 - 2 * ((i : Int) % 2))) = (torL k).map V.int := by
      unfold torL
      rw [List.map_map]
      rfl
    rw [e0] at hlc
    have := ep_PolyL (K := K) (E := E0) hlc (by unfold torL; rw [List.length_map, List.length_range]; omega)
    rw [kC] at this
    exact this
  have L6 := L5.ex e6
  clear L5
  refine rd_pick L6.pen (by omega) (by decide) (by decide) (ev_var rfl) ep_bads fun bd bv H7 hbd x7' pn7 hbv => ?_
  have L7 := L6.x x7' pn7
  refine rd_pick L7.pen (by omega) (by decide) (by decide) (ev_var rfl) ep_wrongs fun wd wv H8 hwd x8' pn8 hwv => ⟨_, _, rfl, ?_⟩
  have L8 := L7.x x8' pn8
  have bad8 := L7.dp x8' hbv
  clear L6 L7 hbv
  obtain ⟨shb, nib⟩ := bad_ok hbd
  obtain ⟨wb, wns, ws, wi, ewd, wbr, wso, wl⟩ := wrong_ok hwd
  have tabs : Tabs [(Pt, (LX w K mg base cdv A outer s H E).env.qual ++ "<lambda>")] H8 := fun p hp => by rw [List.mem_singleton.mp hp]; exact TabS.nil L8.tab
  have hwl : (itemsD wd).length ≤ 40000 := by rw [ewd, items_seq, List.length_map]; omega
  refine q_cut (M := fun _ _ => True) ?_ fun σ' H' _ => s_ret (v := .bl true) ev_c fun H9 _ => hQ H9
  refine s_forN (TT := [(Pt, (LX w K mg base cdv A outer s H E).env.qual ++ "<lambda>")]) (em_lst (eam_cons em_lamG (eam_cons em_lamG eam_nil)) (by show 2 ≤ 100000; decide)) tabs
      (fun ca cvs i σ' H' => ∃ (y3 y9 y14 : Option V), σ' = [some (.ref a), some (.ref p), x2, y3, x4, x5, x6, x7, x8, y9, x10, some (.int (k : Int)), some bv, some wv, y14, none, none] ∧ Tabs [(Pt, (LX w K mg base cdv A outer s H E).env.qual ++ "<lambda>")] H' ∧ ExtN H8 H' ∧ H' ca = some (.lst cvs) ∧ ∀ (j : Nat) (x : V), cvs[j]? = some x → CallF w K mg (LX w K mg base cdv A outer s H E) x H')
      (fun ca cvs H23 e23 t23 hca hall => ⟨x3, x9, none, rfl, t23, e23, hca, fun j x hx => ?_⟩)
      (fun ca cvs i σ' H' hi ⟨y3, y9, y14, es, t, e, hca, hcf⟩ => sq_of hca)
      (fun ca cvs i x σ' H' hlen hx ⟨y3, y9, y14, es, t, e, hca, hcf⟩ => ?_)
      (fun ca cvs σ' H' _ => True.intro)
  · have hj : j < 2 := by have h := (List.getElem?_eq_some_iff.mp hx).1; rw [hall.1] at h; exact h
    match j, hj with
    | 0, _ =>
      obtain ⟨f, c', rfl, hf, hco⟩ := hall.2 0 x _ hx rfl
      exact ⟨f, rfl, fun H1 e => (lamAt_G (e _ _ hf lamG_ne)).fn, fun σ' B hB H1 e u d' E' hd' hl' hbad => lam_G1 (x := "x") (v := u) (vs := [u]) hB (lamL_by (sc := defScope s_law) (by decide +kernel)) rfl (ho_of (by decide +kernel)) (by show ("x" : Str) ∉ N_law; decide +kernel) (lamAt_G (e _ _ hf lamG_ne)) (e _ _ hco codeO_ne) (fun cl us s' doc pm cv ctv ok hus => match us, hus with | [_], .cons r .nil => ⟨_, r, .of_eq rfl⟩) (fun cl A' outer' s' hr' hg' => pe_clX (ok_knot_polyE (w := w) ⟨T.says, hB.mod.kin, hB.mod.glob⟩) hr' (by decide) (passes_call (takes_of rfl rfl rfl rfl) (fun _ _ _ _ h => h)) (by rfl) (pa_cons (pv 0) pa_nil)) ⟨u, rfl, u, d', rfl, hd', hl', hbad⟩⟩
    | 1, _ =>
      obtain ⟨f, c', rfl, hf, hco⟩ := hall.2 1 x _ hx rfl
      exact ⟨f, rfl, fun H1 e => (lamAt_G (e _ _ hf lamG_ne)).fn, fun σ' B hB H1 e u d' E' hd' hl' hbad => lam_G1 (x := "x") (v := u) (vs := [u]) hB (lamL_by (sc := defScope s_law) (by decide +kernel)) rfl (ho_of (by decide +kernel)) (by show ("x" : Str) ∉ N_law; decide +kernel) (lamAt_G (e _ _ hf lamG_ne)) (e _ _ hco codeO_ne) (fun cl us s' doc pm cv ctv ok hus => match us, hus with | [_], .cons r .nil => ⟨_, r, .of_eq rfl⟩) (fun cl A' outer' s' hr' hg' => pe_clX (ok_orders_polyE (w := w) ⟨T.says, hB.mod.kin, hB.mod.glob⟩) hr' (by decide) (passes_call (takes_of rfl rfl rfl rfl) (fun _ _ _ _ h => h)) (by rfl) (pa_cons (pv 0) pa_nil)) ⟨u, rfl, u, d', rfl, hd', hl', hbad⟩⟩
  subst es
  have bad' := monN_D _ _ _ e bad8
  have wro' := monN_D _ _ _ e hwv
  obtain ⟨f, rfl, hfn, hfun⟩ := hcf i x hx
  -- the two rows with their dues
  have w1 : ∀ {σ : L2.St}, σ[12]? = some (some bv) → EvM [(Pt, (LX w K mg base cdv A outer s H E).env.qual ++ "<lambda>")] (tTup (tCons (tVar 12) (tCons (tTup (tCons (tC (.str "row")) (tCons (tCB (rRepr K) (tCons (tVar 12) tNil)) tNil))) tNil))) σ H' (TupN [fun v _ => v = bv, TupS K ["row", bd.shown]]) := fun {σ} h12 =>
    em_tup (eam_cons (em_p (P := fun v _ => v = bv) (Ev.p (ev_var h12)) (fun _ _ _ _ h => h)) (eam_cons (em_p ((epD_tup (ead_cons epD_str (ead_cons (epDs (ev_repr (ev_var h12) (Dp.tbl bad') shb.s shb.h shb.dp shb.l)) ead_nil)) (by show 2 ≤ 100000; decide)).imp fun v H1 _ h => dp_S (ss := ["row", bd.shown]) h) monN_S) eam_nil)) (by show 2 ≤ 100000; decide)
  have w2 : ∀ {σ : L2.St} {E' : XK}, σ[13]? = some (some wv) → EvM [(Pt, (LX w K mg base cdv A outer s H E).env.qual ++ "<lambda>")] (tTup (tCons (tVar 13) (tCons (tTup (tCons (tC (.str "characters")) (tCons (tCall (sp_settle_character K) [] E' (tCons (tVar 13) tNil)) tNil))) tNil))) σ H' (TupN [fun v _ => v = wv, TupN [fun v _ => v = .str "characters", fun v H => ChA K v H (some (ws, wi))]]) := fun {σ E'} h13 =>
    em_tup (eam_cons (em_p (P := fun v _ => v = wv) (Ev.p (ev_var h13)) (fun _ _ _ _ h => h)) (eam_cons (em_tup (eam_cons (em_p (P := fun v _ => v = .str "characters") (Ev.p ev_c) (fun _ _ _ _ h => h)) (eam_cons (em_p (ep_call (ea1 (ev_var h13)) fun H1 e1 Q q E => ⟨wv, wd, rfl, Dp.ex e1 (Dp.tbl wro'), hwl, fun hn => absurd hn (by rw [ewd, isInts_seq]; exact Bool.noConfusion), fun b ns ed v H2 e2 hv => q v H2 e2 (by
        have en : ns = wns := ints_inj (ewd.symm.trans ed).symm.symm
        rw [en, wbr] at hv
        exact hv)⟩) monN_ChA) eam_nil)) (by show 2 ≤ 100000; decide)) eam_nil)) (by show 2 ≤ 100000; decide)
  refine s_forN (TT := [(Pt, (LX w K mg base cdv A outer s H E).env.qual ++ "<lambda>")]) (em_lst (eam_cons (w1 rfl) (eam_cons (w2 rfl) eam_nil)) (by show 2 ≤ 100000; decide)) t
      (fun da dvs j σ' H2 => ∃ (y3 y9 : Option V), σ' = [some (.ref a), some (.ref p), x2, y3, x4, x5, x6, x7, x8, y9, x10, some (.int (k : Int)), some bv, some wv, some (.ref f), none, none] ∧ Tabs [(Pt, (LX w K mg base cdv A outer s H E).env.qual ++ "<lambda>")] H2 ∧ ExtN H' H2 ∧ H2 da = some (.lst dvs) ∧ AllP [TupN [fun v _ => v = bv, TupS K ["row", bd.shown]], TupN [fun v _ => v = wv, TupN [fun v _ => v = .str "characters", fun v H => ChA K v H (some (ws, wi))]]] dvs H2)
      (fun da dvs H2 e2 t2 hda hall => ⟨y3, y9, rfl, t2, e2, hda, hall⟩)
      (fun da dvs j σ' H2 hj ⟨y3, y9, es, t2, e2, hda, hall⟩ => sq_of hda)
      (fun da dvs j y σ' H2 hlen2 hy ⟨y3, y9, es, t2, e2, hda, hall⟩ => ?_)
      (fun da dvs σ' H2 ⟨y3, y9, es, t2, e2, hda, hall⟩ => ⟨y3, y9, _, es, t2, e.trans e2, e2 _ _ hca (fun _ z => nomatch z), fun j x hx => (hcf j x hx).mono e2⟩)
  subst es
  have bad2 := monN_D _ _ _ e2 bad'
  have wro2 := monN_D _ _ _ e2 wro'
  have mAll : ∀ P ∈ [TupN [fun v _ => v = bv, TupS K ["row", bd.shown]], TupN [fun v _ => v = wv, TupN [fun v _ => v = .str "characters", fun v H => ChA K v H (some (ws, wi))]]], MonN P := fun P hP => by
    rcases mem2 hP with rfl | rfl
    · exact (w1 (σ := [none, none, none, none, none, none, none, none, none, none, none, none, some bv]) rfl).2
    · exact (w2 (E' := E) (σ := [none, none, none, none, none, none, none, none, none, none, none, none, none, some wv]) rfl).2
  have hj2 : j < 2 := by have h := (List.getElem?_eq_some_iff.mp hy).1; rw [hlen2] at h; exact h
  match j, hj2 with
  | 0, _ =>
    obtain ⟨ta, us, rfl, hta, hus⟩ := hall.2 0 y _ hy rfl
    match us, hus with
    | [u1, u2], hus =>
      obtain rfl : u1 = bv := hus.2 0 u1 _ rfl rfl
      have hu2 : TupS K ["row", bd.shown] u2 H2 := hus.2 1 u2 _ rfl rfl
      refine ⟨ta, _, rfl, st_of hta, rfl, _, _, rfl, _, _, rfl, rfl, ?_⟩
      refine s_neN (P := TupS K ["row", bd.shown]) (i := 9) (dv := u2) (em_caught (P := TupS K ["row", bd.shown]) em_lam monN_S fun v H3 e3 hw B hB Q q => ?_) t2 rfl (fun v H3 e3 hv => dt_S hv (monN_S _ _ _ e3 hu2)) (fun H3 e3 t3 => ⟨_, _, rfl, t3, e2.trans e3, e3 _ _ hda (fun _ z => nomatch z), allP_N mAll e3 hall⟩)
      obtain ⟨f0, c0, rfl, hf0, hc0⟩ := hw
      refine ⟨f0, rfl, lam_T0 hB (lamL_by (sc := defScope s_law) (by decide +kernel)) (by decide +kernel) hf0 hc0 (fun _ _ _ _ => rfl) (fun cl A' outer' s' hr' hg' => show PE _ _ (tFunS PP w K mg B 11 14 (fun cls d _ H' => Wish K cls d H' Q) (tCons (tVar 3) tNil)) from pe_funS (i := 14) (k := 11) hr' hg' (takes_of rfl rfl rfl rfl) rfl (.inr (.inr rfl)) (pa_cons (pv 3) pa_nil)) ⟨f, rfl, hfn H3 (e2.trans e3), u1, rfl, hfun _ B hB H3 (e2.trans e3) u1 bd _ (monN_D _ _ _ e3 bad2) shb.i (.inl ⟨nib, wish_row shb (monN_D _ _ _ e3 bad2) q⟩)⟩⟩
  | 1, _ =>
    obtain ⟨ta, us, rfl, hta, hus⟩ := hall.2 1 y _ hy rfl
    match us, hus with
    | [u1, u2], hus =>
      obtain rfl : u1 = wv := hus.2 0 u1 _ rfl rfl
      obtain ⟨tb, ws2, eu2, htb, hws2⟩ := hus.2 1 u2 _ rfl rfl
      have hu2 : ChW K ws wi u2 H2 := by
        match ws2, hws2 with
        | [z1, z2], hws2 =>
          obtain rfl : z1 = .str "characters" := hws2.2 0 z1 _ rfl rfl
          obtain ⟨z, dz, ez, hz⟩ := hws2.2 1 z2 _ rfl rfl
          subst ez
          exact ⟨tb, z, dz, eu2, st_of htb, hz⟩
      refine ⟨ta, _, rfl, st_of hta, rfl, _, _, rfl, _, _, rfl, rfl, ?_⟩
      refine s_neN (P := ChW K ws wi) (i := 9) (dv := u2) (em_caught (P := ChW K ws wi) em_lam monN_Ch fun v H3 e3 hw B hB Q q => ?_) t2 rfl (fun v H3 e3 hv => dt_C wso hv (monN_Ch _ _ _ e3 hu2)) (fun H3 e3 t3 => ⟨_, _, rfl, t3, e2.trans e3, e3 _ _ hda (fun _ z => nomatch z), allP_N mAll e3 hall⟩)
      obtain ⟨f0, c0, rfl, hf0, hc0⟩ := hw
      refine ⟨f0, rfl, lam_T0 hB (lamL_by (sc := defScope s_law) (by decide +kernel)) (by decide +kernel) hf0 hc0 (fun _ _ _ _ => rfl) (fun cl A' outer' s' hr' hg' => show PE _ _ (tFunS PP w K mg B 11 14 (fun cls d _ H' => Wish K cls d H' Q) (tCons (tVar 3) tNil)) from pe_funS (i := 14) (k := 11) hr' hg' (takes_of rfl rfl rfl rfl) rfl (.inr (.inr rfl)) (pa_cons (pv 3) pa_nil)) ⟨f, rfl, hfn H3 (e2.trans e3), u1, rfl, hfun _ B hB H3 (e2.trans e3) u1 wd _ (monN_D _ _ _ e3 wro2) hwl (.inr ⟨wb, wns, (ws, wi), ewd, wbr, wish_ch q⟩)⟩⟩
end
end K42
set_option maxHeartbeats 0
/-! What the end asks. -/
namespace K42
open PySem PySem.Spec PyProof.Rows L2 He TC Evl LamX
theorem facts {w : World} {K : PySem.W.Frag} {h : Heap} {mg : Str → Option Value} {f : Addr} (X : K.In h) (G : h.Ns mainGlobals mg) (hfa : mg ("law" : Str) = some (.ref f)) (c : SaysZ fa fn er tf ex h K) :
    ∃ (fd : FuncData) (co T : Addr), h.get? T = some { cls := .none, data := .fields #[] } ∧ K.lookup T = none ∧ PySem.W.CodeHd h co T ∧ (∀ (s : Shared) (u : Value), BindsTo s fd ⟨[u], []⟩ [("script", u)]) ∧
      ∀ base : Heap, K.In base → base.Ns mainGlobals mg → TabB base mg co T → FnG PP w K mg base (L2.CX PP w) 14 f fd ["script"] (sp_law K T) := by
  have W : Wk h K mg h := ⟨c, X, G⟩
  obtain ⟨fd, F⟩ := f_law W
  have e := hfa.symm.trans (g_law W)
  cases e
  have m : (("law", none) : Defn) ∈ tf := by simp [tf]
  have b := FunD.bindsA (ps := ["script"]) F fun _ _ _ _ _ _ us hl => match us, hl with | [_], _ => rfl
  exact ⟨fd, _, _, c.empty _ m, c.out _ m, PySem.W.codeHd_of_K X (c.hd _ m), fun s v => b s [v] rfl, fun base KB GB TB => ok_law ⟨c, KB, GB⟩ TB rfl F⟩
end K42
set_option maxHeartbeats 0
open PySem PySem.W PySem.Calls PyProof.Rows
theorem PySem.Challenge.cw_touchcurves_k42_whole_polynomials_of_kno_holds : PySem.Challenge.rw_touchcurves_k42_whole_polynomials_of_kno.Holds := by
  w_on; o_law
  refine HandSHeadRun.head_imp (r := OpenLaw.row PySem.Challenge.rw_touchcurves_k42_whole_polynomials_of_kno) (q := view (OpenLaw.row PySem.Challenge.rw_touchcurves_k42_whole_polynomials_of_kno).prog [0, 81]) (H := K42.hk) (ob := K42.ob) (M := 15000) (loose := K42.names) (d := HandSHeadRun.topDef (OpenLaw.row PySem.Challenge.rw_touchcurves_k42_whole_polynomials_of_kno).prog 81) (kwd := []) K42.ob_eq K42.run
    (by kernel_rfl) (by kernel_rfl) (by kernel_rfl) (by rfl) (by first | assumption | decide +kernel) (by decide +kernel) ⟨rfl, rfl, rfl, rfl, rfl, by decide +kernel⟩ ?hw ?hc
  case hw => w_witness2
  case hc =>
    refine TC.walk_G (l := PySem.Challenge.rw_touchcurves_k42_whole_polynomials_of_kno) (n := 63) (k := 14) (x := "script") (CX := fun w => L2.CX K42.PP w) rfl (by decide) (by kernel_rfl) ⟨rfl, by decide, by decide⟩ ?F ?hCX
    case hCX =>
      intro w H s e s' z
      obtain ⟨_, _, _, _, _, _, _, _, _, _, _, _, y⟩ := z
      exact False.elim y
    case F =>
      intro w mg fa h Y G hmg0
      obtain ⟨K, KX, c⟩ := Y
      have hmg : mg ("law" : PySem.Str) = some (.ref fa) := by
        have e : (HandSHeadRun.topDef (OpenLaw.row PySem.Challenge.rw_touchcurves_k42_whole_polynomials_of_kno).prog 81).name = ("law" : PySem.Str) := by kernel_rfl
        rw [← e]
        exact hmg0
      obtain ⟨fd, co, T, h1, h2, h3, hb, hF⟩ := K42.facts (w := w) KX G hmg c
      exact ⟨K, fd, co, T, K42.sp_law K T, KX, h1, h2, h3, hb, fun H a ns hl hT hS => ⟨a, ns, rfl, hS, hT, fun _ => rfl⟩, hF⟩
