import PyProof.Rows.All
import Wide.All
import OpenK.AllK
import Wide.FinOn
import KE.KStateDown
import Lean
import HandS.ForMost
import HandS.ForExc
import HandS.Defaults
import HandS.ExcField
import HandS.ExcInit
import HandS.Head0
import HandS.Head1
import HandS.Head2
import HandS.Head3
import HandS.HeadEnd
import HandS.HeadHook1
import HandS.HeadHook2
import HandS.HeadHook3
import HandS.HeadHook4
import HandS.IsInst
import KE.KExcSuper
import PySem.Challenge.RW_touchcurves_k41_whole_cables
import PyProof.ReprRoads
import HandS.Lambda
import HandS.Comp
import HandS.Walk
import HandS.Iter
import HandS.Style
import HandS.TupAny
import HandS.Evl
import KE.GoesMore
import KE.GoesEnum
import HandS.OwnEq
import HandS.More
import HandS.Gcd
import HandS.EndTab
import HandS.HeadWalk
import HandS.ExcOwn
set_option Elab.async false
set_option linter.all false
set_option maxRecDepth 100000
set_option maxHeartbeats 2000000
/-! The head's hook for the touchcurves laws: facts of classes of errors with super(), tables of code objects, the statics. -/
namespace TC
open PySem PySem.Spec PyProof.Rows L2 He

/-! ### what is asked of an own class of errors, by a look at the written part -/
/-- the class object at C is as the maker of own errors wants it -/
def xcB (K : PySem.W.Frag) (C : Addr) : Bool := match K.lookup C with
  | some ⟨.type "type", _, .cls cd, sl⟩ => (match cd.mro, sl.toList with
    | .ref C' :: bm, [_, _, _, _, some (.builtin n), _] => decide (C' = C) && (decide (n = "ValueError.__new__") && (!cd.hasDel && (PySem.HandSPX.refsVE bm && cd.hasDict)))
    | _, _ => false)
  | _ => false
theorem xcB_ok {K : PySem.W.Frag} {C : Addr} (h : xcB K C = true) : ∃ nm q N bs bm sn sub ab col dd k0 k1 k2 k3 k5,
    K.lookup C = some (excClassObj nm q C N bs bm true sn sub ab col dd k0 k1 k2 k3 k5 "ValueError.__new__") ∧ PySem.HandSPX.refsVE bm = true := by
  unfold xcB at h
  split at h
  · rename_i dd cd sl ho
    split at h
    · rename_i C' bm k0 k1 k2 k3 n k5 hm hs
      obtain ⟨h1, h⟩ := ba h
      obtain ⟨h2, h⟩ := ba h
      obtain ⟨h3, h⟩ := ba h
      obtain ⟨h4, h5⟩ := ba h
      have e1 := of_decide_eq_true h1
      have e2 := of_decide_eq_true h2
      obtain ⟨nm, bs, mro, ns, qn, hd, sn, sub, ab, col, del⟩ := cd
      dsimp only at hm h3 h5
      subst e1 e2 hm h5
      have e3 : del = false := by simpa using h3
      subst e3
      have esl : sl = #[k0, k1, k2, k3, some (.builtin "ValueError.__new__"), k5] := by
        obtain ⟨l⟩ := sl
        exact congrArg Array.mk hs
      subst esl
      exact ⟨nm, qn, ns, bs, bm, sn, sub, ab, col, dd, k0, k1, k2, k3, k5, ho, h4⟩
    · cases h
  · cases h

/-! ### facts of __init__ of an own class of errors -/
/-- its cell -/
def xCell (K : PySem.W.Frag) (f : Addr) : Addr := match K.lookup f with
  | some ⟨_, _, .func fd, _⟩ => (match fd.closure with
    | [(_, c)] => c
    | _ => 0)
  | _ => 0
abbrev FnE : Type := Option (Str × Str × Arguments × FuncBody × Scope × Addr × Addr)
def fnE (K : PySem.W.Frag) (f : Addr) : FnE := match K.lookup f with
  | some ⟨_, _, .func fd, _⟩ => some (fd.name, fd.qualname, fd.params, fd.body, fd.scope, fd.globals, fd.builtins)
  | _ => none
/-- __init__ at f has the one cell __class__, that holds C; no defaults; its code tells the text's file -/
def xfnB (K : PySem.W.Frag) (C f : Addr) (q : Str) : Bool := match K.lookup f with
  | some ⟨.type "function", _, .func fd, _⟩ =>
    decide (fd.closure = [(("__class__" : Str), xCell K f)]) && (decide (fd.defaults = .none) && (PySem.W.codeIn K fd.code q && ((match K.lookup (xCell K f) with
        | some ⟨_, _, .cell (some (.ref D)), _⟩ => decide (D = C)
        | _ => false) && (match fd.code with
        | .ref c => (match K.lookup c with
          | some ⟨_, _, .fields vs, _⟩ => (match (vs[2]? : Option Value) with
            | some (.str z _) => decide (z = ("/claim/cut.py" : Str))
            | _ => false)
          | _ => false)
        | _ => false))))
  | _ => false
/-- what is known of it -/
structure XFn (K : PySem.W.Frag) (C f cc : Addr) (qual : Str) (params : Arguments) (body : List Stmt) (scope : Scope) : Prop where
  ex : ∃ (od an : Option Addr) (kV doc pm ct : Value) (osl : Array (Option Value)) (cda : Addr) (ccl : Value) (cdd : Option Addr) (vs : Array Value) (ccs : Array (Option Value)) (tf : Tok),
    K.lookup f = some ⟨.type "function", od, .func (PySem.W.fnX "__init__" qual params body scope [("__class__", cc)] .none kV doc pm an (.ref cda) ct), osl⟩ ∧
    K.lookup cda = some ⟨ccl, cdd, .fields vs, ccs⟩ ∧ vs[2]? = some (.str "/claim/cut.py" tf) ∧ PySem.W.codeIn K (.ref cda) qual = true
  cell : ∃ (cl : Value) (cld : Option Addr) (csl : Array (Option Value)), K.lookup cc = some ⟨cl, cld, .cell (some (.ref C)), csl⟩
theorem xfn_ok {K : PySem.W.Frag} {C f : Addr} {q : Str} {params : Arguments} {body : List Stmt} {scope : Scope} (e : fnE K f = some (("__init__" : Str), q, params, FuncBody.stmts body, scope, mainGlobals, builtinsNs)) (h : xfnB K C f q = true) : XFn K C f (xCell K f) q params body scope := by
  unfold xfnB at h
  split at h
  · rename_i od fd sl ho
    obtain ⟨h1, h⟩ := ba h
    obtain ⟨h2, h⟩ := ba h
    obtain ⟨h3, h⟩ := ba h
    obtain ⟨h4, h5⟩ := ba h
    have e1 := of_decide_eq_true h1
    have e2 := of_decide_eq_true h2
    unfold fnE at e
    rw [ho] at e
    obtain ⟨n1, n2, n3, n4, n5, n6, n7, n8, n9, n10, n11, n12, n13, n14, n15⟩ := fd
    have ee : (some (n1, n2, n3, n4, n5, n6, n15) : FnE) = some (("__init__" : Str), q, params, FuncBody.stmts body, scope, mainGlobals, builtinsNs) := e
    simp only [Option.some.injEq, Prod.mk.injEq] at ee
    obtain ⟨g1, g2, g3, g4, g5, g6, g7⟩ := ee
    dsimp only at e1 e2 h3 h5
    generalize hcc : xCell K f = cc at e1 h4 ⊢
    subst g1 g2 g3 g4 g5 g6 g7 e1 e2
    refine ⟨?_, ?_⟩
    · cases n13 with
      | ref c =>
        have h6 : (match K.lookup c with
          | some ⟨_, _, .fields vs, _⟩ => (match (vs[2]? : Option Value) with
            | some (.str z _) => decide (z = ("/claim/cut.py" : Str))
            | _ => false)
          | _ => false) = true := h5
        cases hc : K.lookup c with
        | none => rw [hc] at h6; cases h6
        | some oo =>
          obtain ⟨ccl, cdd, dt, ccs⟩ := oo
          rw [hc] at h6
          cases dt with
          | fields vs =>
            have h7 : (match (vs[2]? : Option Value) with
              | some (.str z _) => decide (z = ("/claim/cut.py" : Str))
              | _ => false) = true := h6
            cases hz : vs[2]? with
            | none => rw [hz] at h7; cases h7
            | some zv =>
              rw [hz] at h7
              cases zv with
              | str z tf =>
                have ez : z = ("/claim/cut.py" : Str) := of_decide_eq_true h7
                rw [ez] at hz
                exact ⟨od, _, _, _, _, _, sl, c, ccl, cdd, vs, ccs, tf, ho, hc, hz, h3⟩
              | _ => cases h7
          | _ => cases h6
      | _ => cases h5
    · cases hc : K.lookup cc with
      | none => rw [hc] at h4; cases h4
      | some oo =>
        obtain ⟨cl, cld, dt, csl⟩ := oo
        rw [hc] at h4
        cases dt with
        | cell v =>
          cases v with
          | none => cases h4
          | some u =>
            cases u with
            | ref D =>
              have ed : D = C := of_decide_eq_true h4
              exact ⟨cl, cld, csl, by rw [ed]⟩
            | _ => cases h4
        | _ => cases h4
  · cases h

/-! ### the Hook: facts, defs, one more Bool, tables, the errors' own __init__; the statics are looked at, too -/
def kAt (n : Nat) (g : Addr → Option Obj) : PySem.W.Frag := frT g (cStatics :: asD g n)
/-- an error's class and its __init__ in the text -/
abbrev ErD : Type := Str × Stmt
def ErD.qual (p : ErD) : Str := p.1 ++ (".__init__" : Str)
def erAt (K : PySem.W.Frag) (p : ErD) : Addr := ma K (ga K p.1) "__init__"
def erVal (p : ErD) : FnE := some ("__init__", p.qual, defArgs p.2, .stmts (defBody p.2), defScope p.2, mainGlobals, builtinsNs)
structure SaysZ (fa : List Fa) (fn : List DefD) (er : List ErD) (tf : List Defn) (ex : PySem.W.Frag → Bool) (h : Heap) (K : PySem.W.Frag) : Prop where
  d : SaysD fa fn K
  erE : er.map (fun p => fnE K (erAt K p)) = er.map erVal
  erB : ∀ p ∈ er, xfnB K (ga K p.1) (erAt K p) p.qual = true
  more : ex K = true
  hd : ∀ p ∈ tf, PySem.W.codeHdIn K (cT K p).1 (cT K p).2 = true
  out : ∀ p ∈ tf, K.lookup (cT K p).2 = none
  empty : ∀ p ∈ tf, h.get? (cT K p).2 = some { cls := .none, data := .fields #[] }
abbrev AlZ : Type := AlD × List FnE × Bool
def obsZ (n : Nat) (fa : List Fa) (fn : List DefD) (er : List ErD) (tf : List Defn) (ex : PySem.W.Frag → Bool) (g : Addr → Option Obj) : AlZ :=
  (obsD fa fn (kAt n g), er.map (fun p => fnE (kAt n g) (erAt (kAt n g) p)), (er.all fun p => xfnB (kAt n g) (ga (kAt n g) p.1) (erAt (kAt n g) p) p.qual) && (ex (kAt n g) && tabsB g tf (kAt n g)))
def valZ (fn : List DefD) (er : List ErD) : AlZ := (valD fn, er.map erVal, true)
theorem saysZ_of {n : Nat} {fa : List Fa} {fn : List DefD} {er : List ErD} {tf : List Defn} {ex : PySem.W.Frag → Bool} {h : Heap} (e : obsZ n fa fn er tf ex h.get? = valZ fn er) : SaysZ fa fn er tf ex h (kAt n h.get?) := by
  have e1 : obsD fa fn (kAt n h.get?) = valD fn := congrArg Prod.fst e
  have e2 : er.map (fun p => fnE (kAt n h.get?) (erAt (kAt n h.get?) p)) = er.map erVal := congrArg (fun z : AlZ => z.2.1) e
  have e3 : ((er.all fun p => xfnB (kAt n h.get?) (ga (kAt n h.get?) p.1) (erAt (kAt n h.get?) p) p.qual) && (ex (kAt n h.get?) && tabsB h.get? tf (kAt n h.get?))) = true := congrArg (fun z : AlZ => z.2.2) e
  obtain ⟨m0, e4⟩ := ba e3
  obtain ⟨m1, m2⟩ := ba e4
  have look : ∀ p ∈ tf, PySem.W.codeHdIn (kAt n h.get?) (cT (kAt n h.get?) p).1 (cT (kAt n h.get?) p).2 = true ∧ ∃ o, h.get? (cT (kAt n h.get?) p).2 = some o ∧ emptyTab o = true := by
    intro p hp
    obtain ⟨m3, m4⟩ := ba (List.all_eq_true.mp m2 p hp)
    refine ⟨m3, ?_⟩
    cases q : h.get? (cT (kAt n h.get?) p).2 with
    | none => rw [q] at m4; cases m4
    | some o => rw [q] at m4; exact ⟨o, rfl, m4⟩
  refine ⟨e1, e2, fun p hp => List.all_eq_true.mp m0 p hp, m1, fun p hp => (look p hp).1, fun p hp => ?_, fun p hp => ?_⟩
  · obtain ⟨_, o, q, z⟩ := look p hp
    exact frT_none q z
  · obtain ⟨_, o, q, z⟩ := look p hp
    rw [q, emptyTab_eq z]
def hookZ (n : Nat) (fa : List Fa) (fn : List DefD) (er : List ErD) (tf : List Defn) (ex : PySem.W.Frag → Bool) : PySem.W.Hook where
  α := AlZ
  obs := fun s => obsZ n fa fn er tf ex s.heap.get?
  val := fun _ => valZ fn er
  says := fun _ h => ∃ K : PySem.W.Frag, K.In h ∧ SaysZ fa fn er tf ex h K
  of := fun _ _ e => ⟨_, frT_in, saysZ_of e⟩
  keeps := fun _ _ _ ⟨K, hK, c⟩ k => ⟨K, PySem.W.Frag.In.keeps hK k, ⟨c.d, c.erE, c.erB, c.more, c.hd, c.out, fun p hp => k _ _ (c.empty p hp)⟩⟩
theorem obsZ_eq {n : Nat} {fa : List Fa} {fn : List DefD} {er : List ErD} {tf : List Defn} {ex : PySem.W.Frag → Bool} {g : Addr → Option Obj} {s : Shared} (h : ∀ a, g a = s.heap.get? a) : obsZ n fa fn er tf ex g = (hookZ n fa fn er tf ex).obs s := by
  have e : g = s.heap.get? := funext h
  rw [e]
  rfl
theorem SaysZ.init {fa : List Fa} {fn : List DefD} {er : List ErD} {tf : List Defn} {ex : PySem.W.Frag → Bool} {h : Heap} {K : PySem.W.Frag} (c : SaysZ fa fn er tf ex h K) (i : Nat) {p : ErD} (hp : er[i]? = some p) :
    XFn K (ga K p.1) (erAt K p) (xCell K (erAt K p)) p.qual (defArgs p.2) (defBody p.2) (defScope p.2) := by
  have e2 : (er.map fun p => fnE K (erAt K p))[i]? = (er.map erVal)[i]? := by rw [c.erE]
  rw [List.getElem?_map, List.getElem?_map, hp] at e2
  exact xfn_ok (Option.some.inj e2) (c.erB p (List.mem_of_getElem? hp))

/-! ### facts of an error's class -/
structure XCls (K : PySem.W.Frag) (C f : Addr) (flds : List Str) : Prop where
  cls : ∃ nm q N bs bm sn sub ab col dd k0 k1 k2 k3 k5, K.lookup C = some (excClassObj nm q C N bs bm true sn sub ab col dd k0 k1 k2 k3 k5 "ValueError.__new__") ∧ PySem.HandSPX.refsVE bm = true
  sa : PySem.W.findIn K (.ref C) "__setattr__" = some (some (.builtin "object.__setattr__"))
  xf : XfC K C
  ini : PySem.W.findIn K (.ref C) "__init__" = some (some (.ref f))
  tyF : PySem.W.typeIn K (.ref f) = some (.type "function")
  kC : PySem.W.keepIn K (.ref C) = true
  tyC : PySem.W.typeIn K (.ref C) = some (.type "type")
  mro : PySem.W.mroIn K C (.ref C) = some true
  sup : PySem.W.ks_superIn K C C "__init__" = some (some (.builtin "ValueError.__init__"))
  subV : PySem.W.subIn K (.ref C) (.type "ValueError") = some true
  noat : ∀ x ∈ flds, PySem.W.findIn K (.ref C) x = some none
def xclsB (K : PySem.W.Frag) (x : Str) (flds : List Str) : Bool :=
  xcB K (ga K x) && (eqO (PySem.W.findIn K (.ref (ga K x)) "__setattr__") (some (some (.builtin "object.__setattr__"))) && (xfB K (ga K x) && (eqO (PySem.W.findIn K (.ref (ga K x)) "__init__") (some (some (.ref (ma K (ga K x) "__init__")))) &&
  (decide (PySem.W.typeIn K (.ref (ma K (ga K x) "__init__")) = some (.type "function")) && (PySem.W.keepIn K (.ref (ga K x)) && (decide (PySem.W.typeIn K (.ref (ga K x)) = some (.type "type")) && (decide (PySem.W.mroIn K (ga K x) (.ref (ga K x)) = some true) &&
  (eqO (PySem.W.ks_superIn K (ga K x) (ga K x) "__init__") (some (some (.builtin "ValueError.__init__"))) && (decide (PySem.W.subIn K (.ref (ga K x)) (.type "ValueError") = some true) && flds.all fun y => eqO (PySem.W.findIn K (.ref (ga K x)) y) (some none))))))))))
theorem xcls_ok {K : PySem.W.Frag} {x : Str} {flds : List Str} (h : xclsB K x flds = true) : XCls K (ga K x) (ma K (ga K x) "__init__") flds := by
  obtain ⟨h1, h⟩ := ba h
  obtain ⟨h2, h⟩ := ba h
  obtain ⟨h3, h⟩ := ba h
  obtain ⟨h4, h⟩ := ba h
  obtain ⟨h5, h⟩ := ba h
  obtain ⟨h6, h⟩ := ba h
  obtain ⟨h7, h⟩ := ba h
  obtain ⟨h8, h⟩ := ba h
  obtain ⟨h9, h⟩ := ba h
  obtain ⟨h10, h11⟩ := ba h
  exact ⟨xcB_ok h1, eqO_ok h2, xfB_ok h3, eqO_ok h4, of_decide_eq_true h5, h6, of_decide_eq_true h7, of_decide_eq_true h8, eqO_ok h9, of_decide_eq_true h10, fun y hy => eqO_ok (List.all_eq_true.mp h11 y hy)⟩
/-! ### isinstance: what an instance of an own class wants; answers -/
structure InsC (K : PySem.W.Frag) (C : Addr) : Prop where
  cl : Cls K C
  ha : PySem.W.findIn K (.ref C) "__class__" = some (some (.builtin "object.__class__"))
  hn : PySem.W.specialIn K (.builtin "object.__class__") "__get__" = some (some (.builtin "getset_descriptor.__get__"))
  htk : PySem.W.takesIn K (.builtin "object.__class__") = some true
  hm : PySem.W.mroIn K C (.type "object") = some true
def insB (K : PySem.W.Frag) (x : Str) : Bool := (Fa.cls x).ok K && (eqO (PySem.W.findIn K (.ref (ga K x)) "__class__") (some (some (.builtin "object.__class__"))) && (eqO (PySem.W.specialIn K (.builtin "object.__class__") "__get__") (some (some (.builtin "getset_descriptor.__get__"))) &&
  (decide (PySem.W.takesIn K (.builtin "object.__class__") = some true) && decide (PySem.W.mroIn K (ga K x) (.type "object") = some true))))
theorem ins_ok {K : PySem.W.Frag} {x : Str} (h : insB K x = true) : InsC K (ga K x) := by
  obtain ⟨h1, h⟩ := ba h
  obtain ⟨h2, h⟩ := ba h
  obtain ⟨h3, h⟩ := ba h
  obtain ⟨h4, h5⟩ := ba h
  exact ⟨cls_ok h1, eqO_ok h2, eqO_ok h3, of_decide_eq_true h4, of_decide_eq_true h5⟩
theorem InsC.ty {K : PySem.W.Frag} {C : Addr} (T : InsC K C) {H : Hp} {a dx : Addr} {fs : List (Str × V)} (e : H a = some (.ins C dx fs)) : TyX K H (.ref a) (.ref C) := .base (.ins e T.cl T.ha T.hn T.htk T.hm)
/-- a kind: a built-in type, an own class by its name -/
abbrev Kd := Sum String Str
def kdV (K : PySem.W.Frag) : Kd → Value
  | .inl n => .type n
  | .inr x => .ref (ga K x)
def kiB (K : PySem.W.Frag) (q : Kd × Kd × Bool) : Bool := decide (PySem.W.kitOne K (kdV K q.1) (kdV K q.2.1) = some q.2.2)
theorem ki_ok {K : PySem.W.Frag} {l : List (Kd × Kd × Bool)} (h : l.all (kiB K) = true) (i : Nat) {q : Kd × Kd × Bool} (e : l[i]? = some q) : PySem.W.kitOne K (kdV K q.1) (kdV K q.2.1) = some q.2.2 :=
  of_decide_eq_true (List.all_eq_true.mp h q (List.mem_of_getElem? e))
/-- the statics; gcd -/
def stB (K : PySem.W.Frag) : Bool := eqO (PySem.W.nsIn K cStatics "thirdparty.any") (some none)
def gcdB (K : PySem.W.Frag) : Bool := eqO (PySem.W.nsIn K mainGlobals "gcd") (some (some (.builtin "math.gcd")))
end TC
set_option maxHeartbeats 0
namespace K41
open PySem PySem.Spec PyProof.Rows L2 He TC
def top (i : Nat) : Stmt := PySem.Challenge.pw_touchcurves_k41_whole_cables.main.body.getD i (.Pass ⟨0, 0, 0, 0⟩)
abbrev s_BadNumber_init : Stmt := inClass (top 3) 0
abbrev s_BadRow_init : Stmt := inClass (top 4) 0
abbrev s_BadItem_init : Stmt := inClass (top 5) 0
abbrev s_TooMany_init : Stmt := inClass (top 6) 0
abbrev s_BadCurve_init : Stmt := inClass (top 7) 0
abbrev s_NotBranched_init : Stmt := inClass (top 9) 0
abbrev s_BadCharacters_init : Stmt := inClass (top 10) 0
abbrev s_NotStraight_init : Stmt := inClass (top 12) 0
abbrev s_BadType_init : Stmt := inClass (top 13) 0
abbrev s_is_integer : Stmt := top 15
abbrev s_is_row : Stmt := top 16
abbrev s_kept : Stmt := top 17
abbrev s_Characters_init : Stmt := inClass (top 22) 0
abbrev s_Characters_eq : Stmt := inClass (top 22) 1
abbrev s_NoCharacters_init : Stmt := inClass (top 23) 0
abbrev s_NoCharacters_eq : Stmt := inClass (top 23) 1
abbrev s_is_integers : Stmt := top 24
abbrev s_shares_of : Stmt := top 25
abbrev s_characters_breach : Stmt := top 26
abbrev s_need_integers : Stmt := top 27
abbrev s_settled_character : Stmt := top 28
abbrev s_settle_character : Stmt := top 29
abbrev s_need_character : Stmt := top 30
abbrev s_CableOf_init : Stmt := inClass (top 33) 0
abbrev s_CableOf_eq : Stmt := inClass (top 33) 1
abbrev s_NoCable_init : Stmt := inClass (top 34) 0
abbrev s_NoCable_eq : Stmt := inClass (top 34) 1
abbrev s_need_pairs : Stmt := top 35
abbrev s_cable_breach : Stmt := top 36
abbrev s_row_by_cable : Stmt := top 37
abbrev s_settle_cable : Stmt := top 38
abbrev s_cable_fault : Stmt := top 39
abbrev s_cable_of : Stmt := top 40
abbrev s_cable_row : Stmt := top 41
abbrev s_generators_of : Stmt := top 43
abbrev s_generators : Stmt := top 44
abbrev s_law_pen : Stmt := top 46
abbrev s_law_draw : Stmt := top 47
abbrev s_law_pick : Stmt := top 48
abbrev s_law_listed : Stmt := top 49
abbrev s_law_g_caught : Stmt := top 50
abbrev s_law_g_gcd : Stmt := top 51
abbrev s_law_g_shares : Stmt := top 52
abbrev s_law_g_rows : Stmt := top 53
abbrev s_law_t_cable : Stmt := top 54
abbrev s_law_breach : Stmt := top 55
abbrev s_law_row : Stmt := top 56
abbrev s_law_due : Stmt := top 57
abbrev s_law : Stmt := top 58
def d_is_integer : DefD := ⟨("is_integer", none), "is_integer", "is_integer", defArgs s_is_integer, defBody s_is_integer, defScope s_is_integer, [], []⟩
def d_is_row : DefD := ⟨("is_row", none), "is_row", "is_row", defArgs s_is_row, defBody s_is_row, defScope s_is_row, [], []⟩
def d_kept : DefD := ⟨("kept", none), "kept", "kept", defArgs s_kept, defBody s_kept, defScope s_kept, [], []⟩
def d_Characters_init : DefD := ⟨("Characters", some "__init__"), "__init__", "Characters.__init__", defArgs s_Characters_init, defBody s_Characters_init, defScope s_Characters_init, [], []⟩
def d_Characters_eq : DefD := ⟨("Characters", some "__eq__"), "__eq__", "Characters.__eq__", defArgs s_Characters_eq, defBody s_Characters_eq, defScope s_Characters_eq, [], []⟩
def d_NoCharacters_init : DefD := ⟨("NoCharacters", some "__init__"), "__init__", "NoCharacters.__init__", defArgs s_NoCharacters_init, defBody s_NoCharacters_init, defScope s_NoCharacters_init, [], []⟩
def d_NoCharacters_eq : DefD := ⟨("NoCharacters", some "__eq__"), "__eq__", "NoCharacters.__eq__", defArgs s_NoCharacters_eq, defBody s_NoCharacters_eq, defScope s_NoCharacters_eq, [], []⟩
def d_is_integers : DefD := ⟨("is_integers", none), "is_integers", "is_integers", defArgs s_is_integers, defBody s_is_integers, defScope s_is_integers, [], []⟩
def d_shares_of : DefD := ⟨("shares_of", none), "shares_of", "shares_of", defArgs s_shares_of, defBody s_shares_of, defScope s_shares_of, [], []⟩
def d_characters_breach : DefD := ⟨("characters_breach", none), "characters_breach", "characters_breach", defArgs s_characters_breach, defBody s_characters_breach, defScope s_characters_breach, [], []⟩
def d_need_integers : DefD := ⟨("need_integers", none), "need_integers", "need_integers", defArgs s_need_integers, defBody s_need_integers, defScope s_need_integers, [], []⟩
def d_settled_character : DefD := ⟨("settled_character", none), "settled_character", "settled_character", defArgs s_settled_character, defBody s_settled_character, defScope s_settled_character, [], []⟩
def d_settle_character : DefD := ⟨("settle_character", none), "settle_character", "settle_character", defArgs s_settle_character, defBody s_settle_character, defScope s_settle_character, [], []⟩
def d_need_character : DefD := ⟨("need_character", none), "need_character", "need_character", defArgs s_need_character, defBody s_need_character, defScope s_need_character, [], []⟩
def d_CableOf_init : DefD := ⟨("CableOf", some "__init__"), "__init__", "CableOf.__init__", defArgs s_CableOf_init, defBody s_CableOf_init, defScope s_CableOf_init, [], []⟩
def d_CableOf_eq : DefD := ⟨("CableOf", some "__eq__"), "__eq__", "CableOf.__eq__", defArgs s_CableOf_eq, defBody s_CableOf_eq, defScope s_CableOf_eq, [], []⟩
def d_NoCable_init : DefD := ⟨("NoCable", some "__init__"), "__init__", "NoCable.__init__", defArgs s_NoCable_init, defBody s_NoCable_init, defScope s_NoCable_init, [], []⟩
def d_NoCable_eq : DefD := ⟨("NoCable", some "__eq__"), "__eq__", "NoCable.__eq__", defArgs s_NoCable_eq, defBody s_NoCable_eq, defScope s_NoCable_eq, [], []⟩
def d_need_pairs : DefD := ⟨("need_pairs", none), "need_pairs", "need_pairs", defArgs s_need_pairs, defBody s_need_pairs, defScope s_need_pairs, [], []⟩
def d_cable_breach : DefD := ⟨("cable_breach", none), "cable_breach", "cable_breach", defArgs s_cable_breach, defBody s_cable_breach, defScope s_cable_breach, [], []⟩
def d_row_by_cable : DefD := ⟨("row_by_cable", none), "row_by_cable", "row_by_cable", defArgs s_row_by_cable, defBody s_row_by_cable, defScope s_row_by_cable, [], []⟩
def d_settle_cable : DefD := ⟨("settle_cable", none), "settle_cable", "settle_cable", defArgs s_settle_cable, defBody s_settle_cable, defScope s_settle_cable, [], []⟩
def d_cable_fault : DefD := ⟨("cable_fault", none), "cable_fault", "cable_fault", defArgs s_cable_fault, defBody s_cable_fault, defScope s_cable_fault, [], []⟩
def d_cable_of : DefD := ⟨("cable_of", none), "cable_of", "cable_of", defArgs s_cable_of, defBody s_cable_of, defScope s_cable_of, [], []⟩
def d_cable_row : DefD := ⟨("cable_row", none), "cable_row", "cable_row", defArgs s_cable_row, defBody s_cable_row, defScope s_cable_row, [], []⟩
def d_generators_of : DefD := ⟨("generators_of", none), "generators_of", "generators_of", defArgs s_generators_of, defBody s_generators_of, defScope s_generators_of, [], []⟩
def d_generators : DefD := ⟨("generators", none), "generators", "generators", defArgs s_generators, defBody s_generators, defScope s_generators, [], []⟩
def d_law_pen : DefD := ⟨("_law_pen", none), "_law_pen", "_law_pen", defArgs s_law_pen, defBody s_law_pen, defScope s_law_pen, [], []⟩
def d_law_draw : DefD := ⟨("_law_draw", none), "_law_draw", "_law_draw", defArgs s_law_draw, defBody s_law_draw, defScope s_law_draw, [], []⟩
def d_law_pick : DefD := ⟨("_law_pick", none), "_law_pick", "_law_pick", defArgs s_law_pick, defBody s_law_pick, defScope s_law_pick, [], []⟩
def d_law_listed : DefD := ⟨("_law_listed", none), "_law_listed", "_law_listed", defArgs s_law_listed, defBody s_law_listed, defScope s_law_listed, [], []⟩
def d_law_g_caught : DefD := ⟨("_law_g_caught", none), "_law_g_caught", "_law_g_caught", defArgs s_law_g_caught, defBody s_law_g_caught, defScope s_law_g_caught, [], []⟩
def d_law_g_gcd : DefD := ⟨("_law_g_gcd", none), "_law_g_gcd", "_law_g_gcd", defArgs s_law_g_gcd, defBody s_law_g_gcd, defScope s_law_g_gcd, [], []⟩
def d_law_g_shares : DefD := ⟨("_law_g_shares", none), "_law_g_shares", "_law_g_shares", defArgs s_law_g_shares, defBody s_law_g_shares, defScope s_law_g_shares, [], []⟩
def d_law_g_rows : DefD := ⟨("_law_g_rows", none), "_law_g_rows", "_law_g_rows", defArgs s_law_g_rows, defBody s_law_g_rows, defScope s_law_g_rows, [], []⟩
def d_law_t_cable : DefD := ⟨("_law_t_cable", none), "_law_t_cable", "_law_t_cable", defArgs s_law_t_cable, defBody s_law_t_cable, defScope s_law_t_cable, [], []⟩
def d_law_breach : DefD := ⟨("_law_breach", none), "_law_breach", "_law_breach", defArgs s_law_breach, defBody s_law_breach, defScope s_law_breach, [], []⟩
def d_law_row : DefD := ⟨("_law_row", none), "_law_row", "_law_row", defArgs s_law_row, defBody s_law_row, defScope s_law_row, [], []⟩
def d_law_due : DefD := ⟨("_law_due", none), "_law_due", "_law_due", defArgs s_law_due, defBody s_law_due, defScope s_law_due, [], []⟩
def d_law : DefD := ⟨("law", none), "law", "law", defArgs s_law, defBody s_law, defScope s_law, [], []⟩
def fn : List DefD := [d_is_integer, d_is_row, d_kept, d_Characters_init, d_Characters_eq, d_NoCharacters_init, d_NoCharacters_eq, d_is_integers, d_shares_of, d_characters_breach, d_need_integers, d_settled_character, d_settle_character, d_need_character, d_CableOf_init, d_CableOf_eq, d_NoCable_init, d_NoCable_eq, d_need_pairs, d_cable_breach, d_row_by_cable, d_settle_cable, d_cable_fault, d_cable_of, d_cable_row, d_generators_of, d_generators, d_law_pen, d_law_draw, d_law_pick, d_law_listed, d_law_g_caught, d_law_g_gcd, d_law_g_shares, d_law_g_rows, d_law_t_cable, d_law_breach, d_law_row, d_law_due, d_law]
def fa : List Fa := [.glo "is_integer",
  .glo "is_row",
  .glo "kept",
  .glo "is_integers",
  .glo "shares_of",
  .glo "characters_breach",
  .glo "need_integers",
  .glo "settled_character",
  .glo "settle_character",
  .glo "need_character",
  .glo "need_pairs",
  .glo "cable_breach",
  .glo "row_by_cable",
  .glo "settle_cable",
  .glo "cable_fault",
  .glo "cable_of",
  .glo "cable_row",
  .glo "generators_of",
  .glo "generators",
  .glo "_law_pen",
  .glo "_law_draw",
  .glo "_law_pick",
  .glo "_law_listed",
  .glo "_law_g_caught",
  .glo "_law_g_gcd",
  .glo "_law_g_shares",
  .glo "_law_g_rows",
  .glo "_law_t_cable",
  .glo "_law_breach",
  .glo "_law_row",
  .glo "_law_due",
  .glo "law",
  .glo "Characters",
  .cls "Characters",
  .mkr "Characters",
  .meth "Characters" "__eq__",
  .noat "Characters" "shares",
  .glo "NoCharacters",
  .cls "NoCharacters",
  .mkr "NoCharacters",
  .meth "NoCharacters" "__eq__",
  .noat "NoCharacters" "why",
  .noat "NoCharacters" "index",
  .glo "CableOf",
  .cls "CableOf",
  .mkr "CableOf",
  .meth "CableOf" "__eq__",
  .noat "CableOf" "row",
  .glo "NoCable",
  .cls "NoCable",
  .mkr "NoCable",
  .meth "NoCable" "__eq__",
  .noat "NoCable" "why",
  .noat "NoCable" "index",
  .int "MOST_FIRST" 60,
  .int "MOST_ITEM" 400,
  .int "MOST_LENGTH" 5,
  .int "MOST_PAIRS" 4,
  .free "len",
  .free "all",
  .free "any",
  .free "isinstance",
  .free "tuple",
  .free "list",
  .free "range",
  .free "enumerate",
  .free "zip",
  .free "sorted",
  .free "set",
  .free "min",
  .free "max",
  .free "sum",
  .free "abs",
  .free "int",
  .free "str",
  .free "bool",
  .free "repr",
  .free "super",
  .free "ValueError",
  .free "dict",
  .glo "TouchError",
  .glo "BadNumber",
  .glo "BadRow",
  .glo "BadItem",
  .glo "TooMany",
  .glo "BadCurve",
  .glo "SharesBranch",
  .glo "NotBranched",
  .glo "BadCharacters",
  .glo "NotOf",
  .glo "NotStraight",
  .glo "BadType"]
def er : List ErD := [("BadNumber", s_BadNumber_init), ("BadRow", s_BadRow_init), ("BadItem", s_BadItem_init), ("TooMany", s_TooMany_init), ("BadCurve", s_BadCurve_init), ("NotBranched", s_NotBranched_init), ("BadCharacters", s_BadCharacters_init), ("NotStraight", s_NotStraight_init), ("BadType", s_BadType_init)]
def tf : List Defn := [("law", none)]
end K41
set_option maxHeartbeats 0
namespace K41
open PySem PySem.Spec PyProof.Rows L2 He TC
def xl : List (Str × List Str) := [("BadNumber", ["what", "value"]), ("BadRow", ["value"]), ("BadItem", ["value"]), ("BadCharacters", ["answer"])]
def il : List Str := ["Characters", "NoCharacters", "CableOf", "NoCable"]
def kl : List (Kd × Kd × Bool) := (["NoneType", "int", "str", "list", "tuple", "bool"].flatMap fun n => il.map fun c => (Sum.inl n, Sum.inr c, false)) ++ (il.flatMap fun a => il.map fun b => (Sum.inr a, Sum.inr b, decide (a = b))) ++
  (il.flatMap fun a => ["int", "str", "list", "tuple", "bool"].map fun n => (Sum.inr a, Sum.inl n, false))
def ml : List (Str × Str × Bool) := [("BadRow", "BadItem", false), ("BadRow", "BadNumber", false), ("BadRow", "BadRow", true), ("BadCharacters", "BadItem", false), ("BadCharacters", "BadNumber", false), ("BadCharacters", "BadRow", false), ("BadCharacters", "BadCharacters", true)]
def neB (K : PySem.W.Frag) (x : Str) : Bool := eqO (PySem.W.findIn K (.ref (ga K x)) "__ne__") (some (some (.builtin "object.__ne__")))
def nfB (K : PySem.W.Frag) (q : Str × Str) : Bool := PySem.W.notFirst K (ga K q.1) (.ref (ga K q.2))
def nl : List (Str × Str) := il.flatMap fun a => il.map fun b => (a, b)
def ex (K : PySem.W.Frag) : Bool := stB K && (gcdB K && ((xl.all fun p => xclsB K p.1 p.2) && ((il.all (insB K)) && (kl.all (kiB K) && ((ml.all fun q => (Fa.exm q.1 q.2.1 q.2.2).ok K) && (il.all (neB K) && nl.all (nfB K)))))))
abbrev R : PySem.W.OpenRow := PySem.W.OpenLaw.row PySem.Challenge.rw_touchcurves_k41_whole_cables
abbrev hk : PySem.W.Hook := hookZ 5 fa fn er tf ex
def ob (s : PySem.W.SharedT) : AlZ := obsZ 5 fa fn er tf ex (HandSHeadRun.getT s)
theorem ob_eq (s : PySem.W.SharedT) : ob s = hk.obs s.abs := obsZ_eq (HandSHeadRun.getT_eq s)
def names1 : List PySem.Str := ["TouchError", "BadNumber", "BadRow", "BadItem", "TooMany", "BadCurve", "SharesBranch", "NotBranched", "BadCharacters", "NotOf", "NotStraight", "BadType", "is_integer", "is_row", "kept", "MOST_FIRST", "MOST_ITEM", "MOST_LENGTH", "Characters", "NoCharacters", "is_integers", "shares_of", "characters_breach", "need_integers", "settled_character", "settle_character", "need_character"]
def names2 : List PySem.Str := ["MOST_PAIRS", "CableOf", "NoCable", "need_pairs", "cable_breach", "row_by_cable", "settle_cable", "cable_fault", "cable_of", "cable_row", "generators_of", "generators", "_law_pen", "_law_draw", "_law_pick", "_law_listed", "_law_g_caught", "_law_g_gcd", "_law_g_shares", "_law_g_rows", "_law_t_cable", "_law_breach", "_law_row", "_law_due"]
def names : List PySem.Str := names1 ++ names2
theorem run (w : World) : HandSHeadRun.RunEqI R (PySem.W.view R.prog [0, 58]) hk ob 15000 names w := by
  show (HandSHeadRun.wholeF (fun p => HandSHeadRun.stepQ (HandSHeadRun.denQ HandSHeadRun.tabQ) p w) HandSHeadRun.fenceQ 15000 R.prog).map (fun x => (HandSHeadRun.looksF R.prog x.1.heap x.2.abs, HandSHeadRun.seenQ (PySem.W.view R.prog [0, 58]) names (importedModules R.prog.main.body) (fun s => PySem.W.xlAt (PySem.W.view R.prog [0, 58]) [] s && PySem.W.recOk R.toRowW.records s) x.2.abs, ob x.2)) = some (true, PySem.W.openGood (PySem.W.view R.prog [0, 58]) names, hk.val w)
  kernel_rfl
end K41
set_option maxHeartbeats 2000000
/-! Own errors whose __init__ says super().__init__(value); self.f = value: made, raised. -/
namespace TC
open PySem PySem.W PySem.Calls PyProof.Rows PySem.HandSPX
/-- the text of such an __init__: one parameter behind self, one field -/
def erArgs (x : Str) (p1 p2 : Pos) : Arguments := { posonlyargs := [], args := [{ arg := "self", annotation := none, pos := p1 }, { arg := x, annotation := none, pos := p2 }], vararg := none, kwonlyargs := [], kw_defaults := [], kwarg := none, defaults := [] }
def erCall (x : Str) (q1 q2 q3 q4 q5 : Pos) : Expr := .Call (.Attribute (.Call (.Name "super" q1) [] [] q2) "__init__" q3) [.Name x q4] [] q5
def erBody (x f : Str) (q1 q2 q3 q4 q5 q6 r1 r2 r3 r4 : Pos) : List Stmt := [.Expr (erCall x q1 q2 q3 q4 q5) q6, .Assign [.Attribute (.Name "self" r1) f r2] (.Name x r3) r4]
def erScope (x : Str) : Scope := { kind := .function, names := [("self", .local), (x, .local), ("__class__", .free), ("super", .globalImplicit)], isGenerator := false, isCoroutine := false, more := [] }
section
variable {prog : Program} {w : World} {A : Around} {R : Result → Shared → Prop} {s : Shared} {K : Frag} {C fI cc : Addr} {mg mb : Str → Option Value}
theorem ldE {M : Model} {A : Around} {E : Value → Shared → Prop} {s : Shared} {env : Env} {m : Str → Option Value} {x : Str} {pos : Pos} {v : Value} {Q : Value → Shared → Prop} (hn : s.heap.Ns env.locals m) (hv : m x = some v) (hk : env.scope.kind = .function) (hl : env.kindOf x = some .local) (hd : (x == ("__debug__" : Str)) = false)
    (h : Q v s) : wpAny M A (eval (.Name x pos) env) Q E s := wpAny_Name (wpAny_loadName_local hk hl hn hv h) hd
/-- the bound ValueError.__init__ called -/
theorem er_bw {A : Around} {E : Value → Shared → Prop} {h : Heap} {g : Array GenState} {d : Drawn} {t : Nat} {os : OsState} {nm q : Str} {N : Addr} {bs bm : List Value} {hdct : Bool} {sn : List Str} {sub : List Value} {ab : Bool} {col : Option Bool} {dd : Option Addr} {k0 k1 k2 k3 k5 : Option Value}
    {u a t0 : Addr} {rest : List Value} {Q : Value → Shared → Prop} (hC : h.get? C = some (excClassObj nm q C N bs bm hdct sn sub ab col dd k0 k1 k2 k3 k5 "ValueError.__new__")) (ha : h.get? a = some (excO C t0)) (hu : h.get? u = some (kxs_mw "ValueError.__init__" a)) (hz : rest.length ≤ sizeLine)
    (hq : ∀ h' t1, (∀ b o, b ≠ a → h.get? b = some o → h'.get? b = some o) → h'.get? a = some (excO C t1) → Q .none ⟨h', g, d, t, os⟩) : wpAny (model prog w) A (call (.ref u) rest) Q E ⟨h, g, d, t, os⟩ := by
  refine wpAny_call (codeAny_of_tree ?_)
  show wpAny (model prog w) A.in1 (callAny (.ref u) ⟨rest, []⟩) _ _ ⟨h, g, d, t, os⟩
  simp only [callAny]
  refine wpAny_bind (wpAny_load hu ?_)
  have m1 : (Value.type "method-wrapper" == Value.type "method" || Value.type "method-wrapper" == Value.type "builtin_function_or_method" || Value.type "method-wrapper" == Value.type "method-wrapper") = true := by decide
  simp only [kxs_mw, m1, if_true]
  refine KFB.if_so (by decide) (wpAny_bind (check_bound_init F.excBase_ValueError.toExcCallFacts hC ha rfl (wpAny_bind (wpAny_pure (wpAny_pure ?_)))))
  refine ⟨plainId_quiet F.excBase_ValueError.init.plain _, codeAny_builtin F.excBase_ValueError.initEntry ?_⟩
  exact exc_init_tree (cls := .ref C) (t0 := t0) (dv := none) (c2 := .none) (c3 := .none) (b4 := .bool false) ha hz fun h' k e1 e2 => hq h' h.objs.size k e1
theorem er_init {x f qual : Str} {p1 p2 q1 q2 q3 q4 q5 q6 r1 r2 r3 r4 : Pos} {a t0 : Addr} {v : Value} (T : XCls K C fI [f]) (F : XFn K C fI cc qual (erArgs x p1 p2) (erBody x f q1 q2 q3 q4 q5 q6 r1 r2 r3 r4) (erScope x))
    (st : nsIn K cStatics "thirdparty.any" = some none) (hfile : ((prog.main.file : Str) == ("/claim/cut.py" : Str)) = true) (htop : (prog.main.scope.names.lookup ("super" : Str)).isSome = false)
    (X : K.In s.heap) (hlim : s.heap.NoLimit) (G : s.heap.Ns mainGlobals mg) (hsup : mg "super" = none) (B : s.heap.Ns builtinsNs mb) (hbb : mb "super" = bootBuiltins "super") (hx : s.heap.get? a = some (excO C t0)) (hnx : K.lookup a = none) (hroom : A.depth < recursionLimit)
    (hbind : ∀ (kV doc pm : Value) (an : Option Addr) (cdv ct : Value), bindArgs (ksFn "__init__" qual (erArgs x p1 p2) (erBody x f q1 q2 q3 q4 q5 q6 r1 r2 r3 r4) (erScope x) .none kV doc pm an cdv ct cc) ⟨[.ref a, v], []⟩ = pure [(("self" : Str), Value.ref a), (x, v)])
    (he : ∀ (kV doc pm : Value) (an : Option Addr) (cdv ct : Value) (L : Addr), ∃ pl : Sem Bool, eval (erCall x q1 q2 q3 q4 q5) (callEnv (ksFn "__init__" qual (erArgs x p1 p2) (erBody x f q1 q2 q3 q4 q5 q6 r1 r2 r3 r4) (erScope x) .none kV doc pm an cdv ct cc) L fI) = (do
      let ov ← attributeBase (.Call (.Name "super" q1) [] [] q2) "__init__" (callEnv (ksFn "__init__" qual (erArgs x p1 p2) (erBody x f q1 q2 q3 q4 q5 q6 r1 r2 r3 r4) (erScope x) .none kV doc pm an cdv ct cc) L fI) (eval (.Call (.Name "super" q1) [] [] q2) (callEnv (ksFn "__init__" qual (erArgs x p1 p2) (erBody x f q1 q2 q3 q4 q5 q6 r1 r2 r3 r4) (erScope x) .none kV doc pm an cdv ct cc) L fI))
      standAt q3.atName
      let (f', first) ← holding [ov] (getMethod ov "__init__" pl)
      callWith q5 f' first (backTo q5 (starEach [.Name x q4] (callEnv (ksFn "__init__" qual (erArgs x p1 p2) (erBody x f q1 q2 q3 q4 q5 q6 r1 r2 r3 r4) (erScope x) .none kV doc pm an cdv ct cc) L fI))) []))
    (hs1 : (erScope x).names.lookup ("super" : Str) = some .globalImplicit) (hs2 : (erScope x).names.lookup ("__class__" : Str) = some .free)
    (hxl : (erScope x).names.lookup x = some .local) (hxs : ((x == ("self" : Str)) = false)) (hxd : (x == ("__debug__" : Str)) = false)
    (hq : ∀ h' tk dx t1, (∀ b o, b ≠ a → s.heap.get? b = some o → h'.get? b = some o) → h'.get? a = some { cls := .ref C, dict := some dx, data := .fields #[.ref t1, .none, .none, .none, .bool false, .none] } → s.heap.objs.size ≤ dx → dx ≠ a →
      h'.Ns1 dx (fun y => if y = f then some v else none) → R (.ok (.ret .none)) { s with heap := h', toks := tk }) :
    codeAny (model prog w) A (.call (.ref fI) ⟨[.ref a, v], []⟩) R s := by
  obtain ⟨od, an, kV, doc, pm, ct, osl, cda, ccl, cdd, vs, ccs, tf, ho, hcode, hvs, hcd⟩ := F.ex
  obtain ⟨cl, cld, csl, hcell⟩ := F.cell
  obtain ⟨nm, q, N, bs, bm, sn, sub, ab, col, dd, k0, k1, k2, k3, k5, hC, hbm⟩ := T.cls
  have hcl : clsIn K C = some { name := nm, bases := bs, mro := .ref C :: bm, ns := N, qualname := q, hasDict := true, slotNames := sn, subclasses := sub, abstract := ab, collection := col, hasDel := false } := by unfold clsIn; rw [hC]
  have hne : a ≠ C := by
    rintro rfl
    have e := X _ _ hC
    rw [hx] at e
    have e2 := congrArg Obj.data (Option.some.inj e)
    cases e2
  refine ks_codeAny_call_defAt (fd := ksFn "__init__" qual (erArgs x p1 p2) (erBody x f q1 q2 q3 q4 q5 q6 r1 r2 r3 r4) (erScope x) .none kV doc pm an (.ref cda) ct cc) (body := erBody x f q1 q2 q3 q4 q5 q6 r1 r2 r3 r4) (binds := [("self", .ref a), (x, v)])
    hroom (X _ _ ho) rfl hlim (codeRec_of X hcd) rfl (BindsTo.of_eq (hbind _ _ _ _ _ _)) (by
      intro y hy
      have hy : y ∈ [(("self" : Str), NameKind.local), (x, .local), ("__class__", .free), ("super", .globalImplicit)] := hy
      simp only [List.mem_cons, List.not_mem_nil, or_false] at hy
      rcases hy with rfl | rfl | rfl | rfl <;> intro z <;> cases z) (by
      intro y hy
      have hy : y ∈ [(("self" : Str), Value.ref a), (x, v)] := hy
      simp only [List.mem_cons, List.not_mem_nil, or_false] at hy
      rcases hy with rfl | rfl
      · rfl
      · exact hxl) (fun h₁ hns hk₁ => ?_)
  have hxs' : ("self" == x) = false := by
    rw [Bool.eq_false_iff] at hxs ⊢
    intro z
    exact hxs (by rw [beq_iff_eq] at z ⊢; exact z.symm)
  have v1 : ([(("self" : Str), Value.ref a), (x, v)].reverse.lookup ("self" : Str)) = some (.ref a) := by
    show (match ("self" : Str) == x with | true => some v | false => (match ("self" : Str) == ("self" : Str) with | true => some (Value.ref a) | false => none)) = some (.ref a)
    rw [hxs']
    rfl
  have v2 : ([(("self" : Str), Value.ref a), (x, v)].reverse.lookup x) = some v := by
    show (match x == x with | true => some v | false => (match x == ("self" : Str) with | true => some (Value.ref a) | false => none)) = some v
    rw [beq_self_eq_true]
  have hL : s.heap.objs.size ≠ a := Nat.ne_of_gt (Heap.lt_size hx)
  have X1 : K.In h₁ := X.keeps hk₁
  have hx1 := hk₁ _ _ hx
  obtain ⟨hh, g, d, t, os⟩ := s
  have hD : hh.get? C = some (excClassObj nm q C N bs bm true sn sub ab col dd k0 k1 k2 k3 k5 "ValueError.__new__") := X _ _ hC
  have hD1 := hk₁ _ _ hD
  have n1 := hns
  show PySem.wpAt _ _ _ (execs (.Expr (erCall x q1 q2 q3 q4 q5) q6 :: [.Assign [.Attribute (.Name "self" r1) f r2] (.Name x r3) r4]) _) _ _ _
  obtain ⟨pl, heq⟩ := he kV doc pm an (.ref cda) ct hh.objs.size
  refine ks_wpAt_execs_cons (st := .Expr (erCall x q1 q2 q3 q4 q5) q6) (ks_wpAt_Expr_any (ks_wpAt_MethodCall (pl := pl) ?_ (he := heq)) rfl rfl)
  refine ks_wpAt_super_base (ar := { arg := "self", annotation := none, pos := p1 }) hs1 hs2 (by decide) rfl (hk₁ _ _ (X _ _ ho)) rfl rfl rfl (X1 _ _ hcode) rfl hvs hfile htop ?_
  refine ks_loadName_global rfl hs1 (loadGlobal_builtin (G.keeps hk₁) hsup (B.keeps hk₁) (hbb.trans (by decide +kernel)) ⟨rfl, ?_⟩)
  refine wpAny_loadName_free rfl hs2 rfl ⟨_, X1 _ _ hcell, rfl⟩ ?_
  refine wpAny_loadName_local rfl rfl n1 v1 ?_
  refine ks_wpAny_isType_cls hD1 rfl ⟨rfl, ?_⟩
  refine ks_wpAny_call_super hD1 rfl hx1 rfl (fun c e => by cases e) (looks_mroIn X1 T.mro) (fun h₂ e2 kk2 => ?_)
  have k2 : ∀ b o, hh.get? b = some o → h₂.get? b = some o := fun b o e => kk2 b o (hk₁ b o e)
  have X2 : K.In h₂ := X1.keeps kk2
  have hsup2 : alongIn K "__init__" (((Value.ref C :: bm).dropWhile (· != .ref C)).drop 1) = some (some (.builtin "ValueError.__init__")) := by
    have z := T.sup
    unfold ks_superIn at z
    rw [hcl] at z
    exact z
  refine kxs_getMethod kxs_ValueError e2 (looks_opaque X2 st) (l₀ := .ref C :: bm) (fun A Q E s k q => wpAny_bind ((looks_clsIn X2 hcl) A _ E s k (wpAny_pure q))) rfl X2 hsup2 ?_ hne (by decide) ?_
  · have J : InstAt h₂ a (excO C t0) C none := ⟨kk2 _ _ hx1, rfl, rfl, trivial⟩
    exact J.type.andThen (looks_subIn X2 T.subV)
  have a2 : h₂.get? a = some (excO C t0) := kk2 _ _ hx1
  have p2' : ∀ b o, h₂.get? b = some o → (h₂.push (kxs_mw "ValueError.__init__" a)).get? b = some o := fun b o e => Heap.get?_push_of_some _ e
  have hu : (h₂.push (kxs_mw "ValueError.__init__" a)).get? h₂.objs.size = some (kxs_mw "ValueError.__init__" a) := Heap.get?_push_at rfl rfl
  have n3 : (h₂.push (kxs_mw "ValueError.__init__" a)).Ns hh.objs.size (fun y => [(("self" : Str), Value.ref a), (x, v)].reverse.lookup y) := (n1.keeps kk2).keeps p2'
  refine kxs_callWith (i := "ValueError.__init__") (x := a) rfl (evalArgs_plain (Calls.spliced_cons (ldE n3 v2 rfl hxl hxd (Calls.spliced_nil ⟨hu, ?_⟩))))
  refine er_bw (p2' _ _ (kk2 _ _ hD1)) (p2' _ _ a2) hu (by rw [sizeLine_eq]; exact (by decide : 1 ≤ 16777216)) (fun h₄ t1 k4 a4 => ?_)
  -- self.f = value
  have k3 : ∀ b o, b ≠ a → h₁.get? b = some o → h₄.get? b = some o := fun b o hb e => k4 b o hb (p2' b o (kk2 b o e))
  have X4 : K.In h₄ := fun b o e => k3 b o (fun z => by rw [z, hnx] at e; cases e) (X1 b o e)
  have n4 : h₄.Ns hh.objs.size (fun y => [(("self" : Str), Value.ref a), (x, v)].reverse.lookup y) := by
    obtain ⟨o, es, ep, e1, e2, e3⟩ := n1
    exact ⟨o, es, ep, k3 _ _ hL e1, e2, e3⟩
  show PySem.wpAt _ _ _ (execs [.Assign [.Attribute (.Name "self" r1) f r2] (.Name x r3) r4] _) _ _ _
  refine wpAt_of_wpAny (wpAny_execs_cons (plainObj_wpAny_Assign_Attribute (ldE n4 v2 rfl hxl hxd (ldE n4 v1 rfl rfl (by decide) ?_))))
  refine set_plain X4 (ox := excO C t1) (od := none) ⟨a4, rfl, rfl, trivial⟩ T.sa ?_
  refine exc_osa X4 a4 hcl (show refsVE (.ref C :: bm) = true from hbm) rfl (T.noat f (List.mem_cons_self ..)) (fun h₅ tk₅ dx k5 dn dne a5 n5 => ?_)
  exact wpAny_execs_nil (hq h₅ tk₅ dx t1 (fun b o hb e => k5 b o hb (k3 b o hb (hk₁ b o e))) a5 (Nat.le_of_lt (Nat.lt_of_lt_of_le n4.lt dn)) dne n5)

/-- a made error -/
structure ErMade (h h' : Heap) (e C d : Addr) (f : Str) (v : Value) : Prop where
  keep : ∀ b o, h.get? b = some o → h'.get? b = some o
  new : h.objs.size ≤ e
  obj : ∃ oe vs, h'.get? e = some oe ∧ oe.cls = .ref C ∧ oe.dict = some d ∧ oe.data = .fields vs ∧ vs[1]? = some .none
  dbig : h.objs.size ≤ d
  dne : d ≠ e
  ns : h'.Ns1 d (fun y => if y = f then some v else none)
/-- all that is known of such a class, at C, for any world -/
structure ErTxt (prog : Program) (K : Frag) (C fI : Addr) (f : Str) : Prop where
  cls : XCls K C fI [f]
  run : ∀ (w : World) (A : Around) (R : Result → Shared → Prop) (s : Shared) (mg mb : Str → Option Value) (a t0 : Addr) (v : Value), K.In s.heap → s.heap.NoLimit → s.heap.Ns mainGlobals mg → mg "super" = none → s.heap.Ns builtinsNs mb → mb "super" = bootBuiltins "super" →
    s.heap.get? a = some (excO C t0) → K.lookup a = none → A.depth < recursionLimit →
    (∀ h' tk dx t1, (∀ b o, b ≠ a → s.heap.get? b = some o → h'.get? b = some o) → h'.get? a = some { cls := .ref C, dict := some dx, data := .fields #[.ref t1, .none, .none, .none, .bool false, .none] } → s.heap.objs.size ≤ dx → dx ≠ a →
      h'.Ns1 dx (fun y => if y = f then some v else none) → R (.ok (.ret .none)) { s with heap := h', toks := tk }) → codeAny (model prog w) A (.call (.ref fI) ⟨[.ref a, v], []⟩) R s
theorem er_made {f : Str} {v : Value} (T : ErTxt prog K C fI f) (X : K.In s.heap) (hlim : s.heap.NoLimit) (G : s.heap.Ns mainGlobals mg) (hsup : mg "super" = none) (B : s.heap.Ns builtinsNs mb) (hbb : mb "super" = bootBuiltins "super") (hroom : A.depth + 1 < recursionLimit)
    (hq : ∀ h' tk e d, ErMade s.heap h' e C d f v → R (.ok (.ret (.ref e))) { s with heap := h', toks := tk }) : codeAny (model prog w) A (.call (.ref C) ⟨[v], []⟩) R s := by
  obtain ⟨nm, q, N, bs, bm, sn, sub, ab, col, dd, k0, k1, k2, k3, k5, hC, hbm⟩ := T.cls.cls
  obtain ⟨hp, g, dr, tk, os⟩ := s
  have up : ∀ b o, hp.get? b = some o → ((hp.push (kdv_tup [v])).push (excO C hp.objs.size)).get? b = some o := fun b o e => Heap.get?_push_of_some _ (Heap.get?_push_of_some _ e)
  have at_ : ((hp.push (kdv_tup [v])).push (excO C hp.objs.size)).get? (hp.objs.size + 1) = some (excO C hp.objs.size) := by heap_get
  have out : K.lookup (hp.objs.size + 1) = none := by
    cases e : K.lookup (hp.objs.size + 1) with
    | none => rfl
    | some o => exact absurd (Nat.lt_of_succ_lt (Heap.lt_size (show hp.get? (hp.objs.size + 1) = some o from X _ _ e))) (Nat.lt_irrefl _)
  refine call_own F.excBase_ValueError (fun Y => refsVE_contains Y bm hbm) (X _ _ hC) (looks_findIn X T.cls.ini) (fun self => bind_fn X self T.cls.tyF) (by rw [sizeLine_eq]; exact (by decide : 1 ≤ 16777216)) ?_
  refine T.run w _ _ ⟨(hp.push (kdv_tup [v])).push (excO C hp.objs.size), g, dr, tk, os⟩ mg mb _ _ v (X.keeps up) (hlim.keeps up) (G.keeps up) hsup (B.keeps up) hbb at_ out (show A.depth + 1 < recursionLimit from hroom) (fun h' tk' dx t1 k' a' dn dne hns => ?_)
  have old : ∀ b o, hp.get? b = some o → h'.get? b = some o := fun b o e => k' b o (Nat.ne_of_lt (Nat.lt_succ_of_lt (Heap.lt_size e))) (up b o e)
  have z : hp.objs.size + 1 + 1 ≤ dx := by
    first
      | exact dn
      | (simpa only [Heap.size_push] using dn)
  exact ⟨rfl, hq h' tk' (hp.objs.size + 1) dx ⟨old, Nat.le_succ _, ⟨_, _, a', rfl, rfl, rfl, rfl⟩, Nat.le_trans (Nat.le_trans (Nat.le_succ _) (Nat.le_succ _)) z, dne, hns⟩⟩
end
end TC
set_option maxHeartbeats 2000000
/-! The rules over the layer: X(e), raise X(e). -/
namespace TC
open PySem PySem.Spec PyProof.Rows L2
theorem relO_one {f : Str} {v : V} {v' : Value} (r : RelV v v') (y : Str) : RelO (List.lookup y [(f, v)]) (if y = f then some v' else none) := by
  by_cases h : y = f
  · subst h
    rw [if_pos rfl]
    have q : List.lookup y [(y, v)] = some v := by simp [List.lookup]
    rw [q]
    exact r
  · rw [if_neg h]
    have q0 : (y == f) = false := by simpa using h
    have q : List.lookup y [(f, v)] = none := by simp [List.lookup, q0]
    rw [q]
    trivial
section
variable {X : Cx} {C fI : Addr} {f : Str}
/-- X(e): the class, the new dict with the one field -/
def tMkEr (C : Addr) (f : Str) (ta : TA) : L2.St → Hp → XK → Prop := fun σ H Q => ta σ H fun vs H1 => ∃ v, vs = [v] ∧ ∀ d, H1 d = none → Q (.ref C) (some d) (upd H1 d (.xd [(f, v)]))
theorem pmk_er {x : Str} {a : Expr} {ta : TA} {p pos : Pos} {k : Nat} (T : ErTxt X.prog X.K C fI f) (hr : Room k X.A) (hsup : X.mg "super" = none) (gC : X.mg x = some (.ref C)) (ha : PA X [a] ta) (hg : Gl X x := by rfl) (hdb : (x == ("__debug__" : Str)) = false := by decide)
    (he : starEach (a :: []) X.env = (false, eval a X.env) :: starEach [] X.env := by rfl) (hpl : (backTo pos (starEach [] X.env)).any (·.1) = false := by rfl) :
    PMk X (.Call (.Name x p) [a] [] pos) (tMkEr C f ta) := by
  intro pins s σ H Q I h
  refine wpAny_Call_Name_kw (ld_glob I hg gC ?_ hdb)
  refine PySem.W.callWith_K (h₀ := X.base) I.ok.mod.kin T.cls.kC (thn (ha.run pos pins s σ H _ I h) fun us s1 hh => ?_) he hpl
  obtain ⟨vs, H1, I1, r1, v, ev, q1⟩ := hh
  subst ev
  refine ⟨I1.kIn, ?_⟩
  cases r1 with
  | cons rv rn =>
    rename_i v' us'
    cases rn
    show wpAny _ _ (call (.ref C) [v']) _ _ _
    have hlim := I1.nolimit
    have hG := I1.ok.mod.glob.keeps I1.bk
    obtain ⟨mb, hB, hbb⟩ := I1.ok.mod.blt
    have hB' := hB.keeps I1.bk
    obtain ⟨hp, g, dr, tk, os⟩ := s1
    refine wpAny_call (er_made T I1.kIn hlim hG hsup hB' (hbb _ (by decide)) (by have := hr.dp; omega) fun h' tk' e d M => ?_)
    show MkP X pins σ Q (.ref e) ⟨h', g, dr, tk', os⟩
    obtain ⟨oe, fv, hoe, hc, hd, hdat, h1⟩ := M.obj
    have hns := M.ns
    obtain ⟨G', g1, g2⟩ := restrict h' fun b => decide (b ≠ e)
    have gk : ∀ b, b ≠ e → G'.get? b = h'.get? b := fun b hb => g1 b (decide_eq_true hb)
    have ge : G'.get? e = none := g2 e (by simp)
    have old : ∀ b o, hp.get? b = some o → G'.get? b = some o := fun b o q => (gk b (Nat.ne_of_lt (Nat.lt_of_lt_of_le (Heap.lt_size q) M.new))).trans (M.keep b o q)
    have ob : ObjOk X.prog X.w (upd H1 d (.xd [(f, v)])) G' d (.xd [(f, v)]) := ⟨_, hns.at (fun o q => (gk d M.dne).trans q), fun y => relO_one rv y⟩
    have J : Inv X pins σ (upd H1 d (.xd [(f, v)])) ⟨G', g, dr, tk', os⟩ := I1.laid (t' := tk') old M.dbig ob
    refine ⟨e, oe, fv, ⟨G', g, dr, tk', os⟩, _, .ref C, some d, rfl, J, fun b o q => ?_, ge, hoe, ⟨hc, hd⟩, hdat, h1, ?_, rfl, I1.bare, raises_own T.cls.xf.exC T.cls.tyC, q1 d (I1.hok.fresh M.dbig)⟩
    · by_cases hb : b = e
      · have q' : G'.get? b = some o := q
        rw [hb, ge] at q'; cases q'
      · exact (gk b hb).symm.trans q
    · rw [upd_ne (Ne.symm M.dne)]
      exact I1.hok.fresh M.new
/-- raise X(e) -/
def tRaiseEr (C : Addr) (f : Str) (W : WX) (ta : TA) : TS := fun _ σ H => tMkEr C f ta σ H fun cls d H' => W cls d σ H'
theorem ps_raiseEr {x : Str} {a : Expr} {ta : TA} {W : WX} {p pos pos2 : Pos} {k : Nat} (hc : X.calm = true) (T : ErTxt X.prog X.K C fI f) (hr : Room k X.A) (hsup : X.mg "super" = none) (gC : X.mg x = some (.ref C)) (tk : Takes X W) (ha : PA X [a] ta) (hg : Gl X x := by rfl) (hdb : (x == ("__debug__" : Str)) = false := by decide)
    (he : starEach (a :: []) X.env = (false, eval a X.env) :: starEach [] X.env := by rfl) (hpl : (backTo pos (starEach [] X.env)).any (·.1) = false := by rfl) :
    PS X (.Raise (some (.Call (.Name x p) [a] [] pos)) none pos2) (tRaiseEr C f W ta) := ps_raise hc tk (pmk_er T hr hsup gC ha hg hdb he hpl)
end
end TC
set_option maxHeartbeats 2000000
/-! try with several clauses, each with a name or without. -/
namespace TC
open PySem PySem.Spec PyProof.Rows L2
/-- a clause: the class, the slot of its name (if any), the reading of its suite -/
structure Clause where
  cls : Value
  slot : Option Nat
  suite : Addr → Value → Option Addr → TS
/-- behind a suite: its name is gone -/
def goneEnds (D : Ends) : Option Nat → Ends
  | none => D
  | some i => { nx := fun σ H => D.nx (σ.set i none) H, rt := D.rt, bk := fun σ H => D.bk (σ.set i none) H, ct := fun σ H => D.ct (σ.set i none) H }
def nameSet (σ : L2.St) (a : Addr) : Option Nat → L2.St
  | none => σ
  | some i => σ.set i (some (.ref a))
/-- the wish at the clauses, one after another -/
def wClauses (K : PySem.W.Frag) (Wout : WX) (D : Ends) : List Clause → WX
  | [] => Wout
  | c :: r => fun cls d σ H => ∃ b, PySem.W.exmOne K cls c.cls = some b ∧ (b = true → ∀ a, H a = none → c.suite a cls d (goneEnds D c.slot) (nameSet σ a c.slot) H) ∧ (b = false → wClauses K Wout D r cls d σ H)
inductive Clauses (X : Cx) : List ExceptHandler → List Clause → Prop
  | nil : Clauses X [] []
  | bare {x : Str} {c : Value} {ts : Addr → Value → Option Addr → TS} {b₀ : Stmt} {suite : List Stmt} {p1 p2 : Pos} {hds : List ExceptHandler} {l : List Clause} (hc : Names X x c)
      (hsu : ∀ (a : Addr) (oe : Obj) (cls : Value) (d : Option Addr) (pn : List (Addr × Obj)), Zc cls d oe → (∃ vs, oe.data = .fields vs) → PSs (X.suite a ((a, oe) :: pn)) (b₀ :: suite) (ts a cls d)) (r : Clauses X hds l) :
      Clauses X (.ExceptHandler (some (.Name x p1)) none (b₀ :: suite) p2 :: hds) (⟨c, none, ts⟩ :: l)
  | named {x n : Str} {c : Value} {i : Nat} {ts : Addr → Value → Option Addr → TS} {b₀ : Stmt} {suite : List Stmt} {p1 p2 : Pos} {hds : List ExceptHandler} {l : List Clause} (hc : Names X x c) (hi : X.N[i]? = some n) (hln : X.env.kindOf n = some .local)
      (hsu : ∀ (a : Addr) (oe : Obj) (cls : Value) (d : Option Addr) (pn : List (Addr × Obj)), Zc cls d oe → (∃ vs, oe.data = .fields vs) → PSs (X.suite a ((a, oe) :: pn)) (b₀ :: suite) (ts a cls d)) (r : Clauses X hds l) :
      Clauses X (.ExceptHandler (some (.Name x p1)) (some n) (b₀ :: suite) p2 :: hds) (⟨c, some i, ts⟩ :: l)
section
variable {X : Cx} {body : List Stmt} {h₀ : ExceptHandler} {hds : List ExceptHandler} {l : List Clause} {pos : Pos} {tb : WX → TS} {Wout : WX}
theorem ps_try_clauses (hs : X.stack = X.env :: X.outer) (hf : X.env.frame = some X.env.locals) (hN : X.N.Nodup) (tk : Takes X Wout)
    (hb : ∀ (W : WX) (pn : List (Addr × Obj)) (xe : Value → Shared → Prop), Takes (X.tr pn xe) W → PassesOwn (model X.prog X.w) X.A X.env xe → PSs (X.tr pn xe) body (tb W)) (hh : Clauses X (h₀ :: hds) l) :
    PS X (.Try body (h₀ :: hds) [] [] pos) (fun D σ H => tb (wClauses X.K Wout D l) D σ H) := by
  constructor
  intro pins s σ H D I h
  have ok := I.ok
  have fr : X.A.frames = some (X.env :: X.outer) := ok.frames.trans (by rw [hs])
  refine wpAny_Try_except (wpAny_mono ((hb (wClauses X.K Wout D l) (X.pn ++ pins) (fun e s₁ => wpAny (model X.prog X.w) X.A (noteFrame e X.env) (fun _ s₂ => wpAny (model X.prog X.w) X.A (setFlight e none) (fun _ s₃ =>
    wpAny (model X.prog X.w) X.A (handleBy e X.env (h₀ :: hds)) (SP X pins D) X.xe s₃) X.xe s₂) X.xe s₁) (fun u s' xx => ?_) PassesOwn.looking).run [] s σ H D (I.toTry _) h) (fun fl s1 q => ?_) fun _ _ z => z)
  · obtain ⟨a, B, sI, pins0, σ1, H1, cls, d, rfl, J0, nb, up, sky, na, os, ag, wish⟩ := xx
    have J : Inv X pins σ1 H1 sI := J0.ofTry ok
    have sky1 : Sky B (X.env :: X.outer) a (Zc cls d) X.env.locals s'.heap := hs ▸ sky
    refine Sky.land Zc.steady fr hf sky1 fun h3 fl3 up3 => ?_
    have J3 : Inv X pins σ1 H1 { s' with heap := h3 } := J.landed nb fl3.1 (up.trans up3) os ag
    obtain ⟨oe3, vs3, he3, hz3, hd3⟩ := fl3.there
    have out : a ∉ frs (X.env :: X.outer) := fun hm => by
      obtain ⟨_, o', e', hnf⟩ := fl3.2.2.1.mem hm
      rw [he3] at e'
      cases e'
      exact hnf _ hd3
    have nL : a ≠ X.env.locals := fun z => out (List.mem_filterMap.mpr ⟨X.env, List.mem_cons_self, by rw [hf, z]⟩)
    have nF : a ∉ X.fs := fun hm => by
      obtain ⟨e, he, q⟩ := List.mem_filterMap.mp hm
      exact out (List.mem_filterMap.mpr ⟨e, List.mem_cons_of_mem _ he, q⟩)
    have S3 := J3.suite he3 hd3 na nL nF
    have LT : PySem.W.Looks (model X.prog X.w) h3 (typeOf (.ref a)) cls := fun A Q E s k q => wpAny_typeOf_ref (k _ _ he3) (by rw [hz3.1]; exact q)
    have tested : ∀ {x : Str} {c : Value} {np : Pos}, Names X x c → ∀ {Q : Value → Shared → Prop} {E : Value → Shared → Prop}, Q c { s' with heap := h3 } → wpAny (model X.prog X.w) (X.A.mark (some (.ref a))) (eval (.Name x np) X.env) Q E { s' with heap := h3 } := fun {x c np} hc {Q E} q => by
      obtain ⟨g1, g2, g3 | ⟨g3, g4, g5⟩⟩ := hc
      · exact ld_glob (X := X.suite a ((a, oe3) :: (X.pn ++ pins))) S3 g1 g3 q g2
      · exact ld_blt (X := X.suite a ((a, oe3) :: (X.pn ++ pins))) S3 g1 g3 g4 q g5 g2
    -- the flight is gone: the suite's state
    have enter : ∀ {P : Heap → Prop}, (∀ h4 oe4, Zc cls d oe4 → (∃ vs, oe4.data = .fields vs) → Inv (X.suite a ((a, oe4) :: (X.pn ++ pins))) [] σ1 H1 { s' with heap := h4 } → P h4) → ∀ h4, HandSPX.FlyingZ B (X.env :: X.outer) a (Zc cls d) h4 → h3.UpToSlots h4 → P h4 := fun {P} k h4 fl4 up4 => by
      have J4 : Inv X pins σ1 H1 { s' with heap := h4 } := J.landed nb fl4.1 ((up.trans up3).trans up4) os ag
      obtain ⟨oe4, vs4, he4, hz4, hd4⟩ := fl4.there
      exact k h4 oe4 hz4 ⟨_, hd4⟩ (J4.suite he4 hd4 na nL nF)
    have go : ∀ {hs' : List ExceptHandler} {l' : List Clause}, Clauses X hs' l' → wClauses X.K Wout D l' cls d σ1 H1 → wpAny (model X.prog X.w) X.A (handleBy (.ref a) X.env hs') (SP X pins D) X.xe { s' with heap := h3 } := by
      intro hs' l' hk
      induction hk with
      | nil =>
        intro w
        obtain ⟨k1, k2, k3, oe, vs, T, oT, ts', he, hz, hd, h1, hr⟩ := id fl3
        have last : wpAny (model X.prog X.w) X.A (setFlight (.ref a) X.env.frame) (fun _ s4 => wpAny (model X.prog X.w) X.A (throw (.ref a) : Sem Flow) (SP X pins D) X.xe s4) X.xe { s' with heap := h3 } := by
          rw [hf]
          exact HandSPX.setFlight_upZ fl3 fun h4 hh4 up4 => wpAny_throw (tk _ _ ⟨a, B, sI, pins, σ1, H1, cls, d, rfl, J, nb, (up.trans up3).trans up4, .inr (.inr (hs ▸ hh4)), na, os, ag, w⟩)
        refine wpAny_handleBy_nil ?_
        unfold PySem.passOn
        refine wpAny_bind (wpAny_field he hd h1 ?_)
        rw [if_neg (show ¬ ((Value.ref T == Value.none) = true) from by simp)]
        first
          | exact wpAny_bind (wpAny_pure (wpAny_bind last))
          | exact wpAny_bind last
      | @bare x c ts b₀ suite p1 p2 hds2 l2 hc hsu r ih =>
        intro w
        obtain ⟨b, e, yes, no⟩ := w
        refine wpAny_handleBy_cons (codeAny_handlers_test (tested hc ((PySem.W.exm_one (M := model X.prog X.w) J3.kIn LT e).here ?_))) (by intro q; cases q)
        cases b with
        | false => exact ih (no rfl)
        | true =>
          refine codeAny_handlers_suite (HandSPX.lands_againZ fl3 (enter fun h4 oe4 hz4 hd4 S4 => ?_))
          refine wpAny_mono ((hsu a oe4 cls d (X.pn ++ pins) hz4 hd4).run [] _ _ H1 _ S4 (yes rfl a na)) (fun fl s6 q => ?_) fun _ _ z => False.elim z
          cases fl with
          | ret u =>
            obtain ⟨v6, σ6, H6, S6, r6, q6⟩ := q
            exact ⟨_, _, _, S6.unsuite ok, r6, q6⟩
          | next => obtain ⟨σ6, H6, S6, q6⟩ := q; exact ⟨_, _, S6.unsuite ok, q6⟩
          | brk => obtain ⟨σ6, H6, S6, q6⟩ := q; exact ⟨_, _, S6.unsuite ok, q6⟩
          | cont => obtain ⟨σ6, H6, S6, q6⟩ := q; exact ⟨_, _, S6.unsuite ok, q6⟩
      | @named x n c i ts b₀ suite p1 p2 hds2 l2 hc hi hln hsu r ih =>
        intro w
        obtain ⟨b, e, yes, no⟩ := w
        refine wpAny_handleBy_cons (codeAny_handlers_test (tested hc ((PySem.W.exm_one (M := model X.prog X.w) J3.kIn LT e).here ?_))) (by intro q; cases q)
        cases b with
        | false => exact ih (no rfl)
        | true =>
          refine codeAny_handlers_suite_as (HandSPX.lands_againZ fl3 (enter fun h4 oe4 hz4 hd4 S4 => ?_))
          refine store_ok (X := X.suite a ((a, oe4) :: (X.pn ++ pins))) (v := .ref a) S4 hN hi (.inl hln) rfl (fun s5 S5 => ?_) (.inr hln)
          refine wpAny_mono ((hsu a oe4 cls d (X.pn ++ pins) hz4 hd4).run [] s5 _ H1 _ S5 (yes rfl a na)) (fun fl s6 q => ?_) fun _ _ z => False.elim z
          have fin : ∀ {σ6 : L2.St} {H6 : Hp} {Q : Shared → Prop}, Inv (X.suite a ((a, oe4) :: (X.pn ++ pins))) [] σ6 H6 s6 → (∀ s7, Inv X pins (σ6.set i none) H6 s7 → Q s7) →
              wpAny (model X.prog X.w) X.A (do bindName X.env n .none; unbindBehindTheSuite X.env n p2) (fun _ s7 => Q s7) X.xe s6 := fun {σ6 H6 Q} S6 hq => gone_ok (S6.unsuite ok) hN hi hln hq
          cases fl with
          | ret u =>
            obtain ⟨v6, σ6, H6, S6, r6, q6⟩ := q
            exact fin S6 fun s7 J7 => ⟨_, _, _, J7, r6, q6⟩
          | next => obtain ⟨σ6, H6, S6, q6⟩ := q; exact fin S6 fun s7 J7 => ⟨_, _, J7, q6⟩
          | brk => obtain ⟨σ6, H6, S6, q6⟩ := q; exact fin S6 fun s7 J7 => ⟨_, _, J7, q6⟩
          | cont => obtain ⟨σ6, H6, S6, q6⟩ := q; exact fin S6 fun s7 J7 => ⟨_, _, J7, q6⟩
    exact go hh wish
  · cases fl with
    | ret u =>
      obtain ⟨v, σ', H', J', r, q⟩ := q
      exact ⟨v, σ', H', J'.ofTry ok, r, q⟩
    | next => obtain ⟨σ', H', J', q⟩ := q; exact wpAny_execs_nil ⟨σ', H', J'.ofTry ok, q⟩
    | brk => obtain ⟨σ', H', J', q⟩ := q; exact ⟨σ', H', J'.ofTry ok, q⟩
    | cont => obtain ⟨σ', H', J', q⟩ := q; exact ⟨σ', H', J'.ofTry ok, q⟩
end
end TC
set_option maxHeartbeats 2000000
/-! Defs whose promise knows that no repr is under way; repr of data. -/
namespace TC
open PySem PySem.Spec PyProof.Rows L2
/-- a def's promise where no guard stands around -/
structure FnG (P : Program) (w : World) (K : PySem.W.Frag) (mg : Str → Option Value) (base : Heap) (CX : CXT) (k : Nat) (f : Addr) (fd : FuncData) (ps : List Str) (sp : Sp) : Prop where
  len : ∀ vs H Q E, sp vs H Q E → vs.length = ps.length
  run : ∀ (A : Around) (outer : List Env) (s : Shared) (H : Hp) (args : Args) (us : List Value) (vs : List V) (Q : VK) (E : XK), Room k A → A.guards = some [] → Env0 P w K mg base A outer s H → BindsTo s fd args (ps.zip us) → Vals vs us → sp vs H Q E →
    codeAny (model P w) A (.call (.ref f) args) (CR CX outer P w H s Q E) s
theorem FnG.of {P : Program} {w : World} {K : PySem.W.Frag} {mg : Str → Option Value} {base : Heap} {CX : CXT} {k : Nat} {f : Addr} {fd : FuncData} {ps : List Str} {sp : Sp} (F : FnOk P w K mg base CX k f fd ps sp) : FnG P w K mg base CX k f fd ps sp :=
  ⟨F.len, fun A outer s H args us vs Q E hr _ e hb r h => F.run A outer s H args us vs Q E hr e hb r h⟩
section
variable {CX : CXT} {P : Program} {w : World} {K : PySem.W.Frag} {mg : Str → Option Value} {base : Heap} {k : Nat} {f : Addr}
theorem fn_ofG {name qual : Str} {params : Arguments} {body : List Stmt} {scope : Scope} {dV kV doc pm cdv ct oc : Value} {an od : Option Addr} {osl : Array (Option Value)} {N ps : List Str} {sp : Sp}
    (lk : K.lookup f = some ⟨oc, od, .func (PySem.W.fnOf name qual params body scope dV kV doc pm an cdv ct), osl⟩) (hcd : PySem.W.codeIn K cdv qual = true) (S : FnScope N ps scope) (len : ∀ vs H Q E, sp vs H Q E → vs.length = ps.length)
    (hbody : ∀ (A : Around) (outer : List Env) (s : Shared) (H : Hp) (vs : List V) (Q : VK) (E : XK), Room k (A.deeper (envOfC qual scope s.heap.objs.size f cdv)) → A.guards = some [] → sp vs H Q E →
      ∃ t, PSs (cxOf CX P w K mg base N qual scope f cdv A outer s H E) body t ∧ t { nx := fun _ H' => Q .non H', rt := Q } (start N vs) H) : FnG P w K mg base CX (k + 1) f (PySem.W.fnOf name qual params body scope dV kV doc pm an cdv ct) ps sp := by
  refine ⟨len, fun A outer s H args us vs Q E hr hg e0 hb r hsp => ?_⟩
  exact LamX.run_ofS (N := N) (ps := ps) (us := us) (vs := vs) lk hcd S hr e0 hb r (len _ _ _ _ hsp) fun hr' => hbody A outer s H vs Q E hr' hg hsp
theorem FunD.okG {x qual : Str} {params : Arguments} {body : List Stmt} {scope : Scope} {dvs : List V} {kws : List (Str × V)} {fd : FuncData} {N ps : List Str} {sp : Sp} (F : FunD K x qual params body scope dvs kws f fd) (S : FnScope N ps scope) (len : ∀ vs H Q E, sp vs H Q E → vs.length = ps.length)
    (hbody : ∀ (cdv : Value) (A : Around) (outer : List Env) (s : Shared) (H : Hp) (vs : List V) (Q : VK) (E : XK), PySem.W.codeIn K cdv qual = true → (∃ od oc osl, ∃ fd' : FuncData, K.lookup f = some ⟨oc, od, .func fd', osl⟩ ∧ fd'.code = cdv) → Room k (A.deeper (envOfC qual scope s.heap.objs.size f cdv)) → A.guards = some [] → sp vs H Q E →
      ∃ t, PSs (cxOf CX P w K mg base N qual scope f cdv A outer s H E) body t ∧ t { nx := fun _ H' => Q .non H', rt := Q } (start N vs) H) : FnG P w K mg base CX (k + 1) f fd ps sp := by
  obtain ⟨oc, od, dV, kV, doc, pm, an, cdv, ct, osl, rfl, lk, hcd, _, _⟩ := F.ex
  exact fn_ofG lk hcd S len fun A outer s H vs Q E hr hg hsp => hbody cdv A outer s H vs Q E hcd ⟨od, oc, osl, _, lk, rfl⟩ hr hg hsp
end
/-! ### a call of such a def -/
section
variable {X : Cx} {CX : CXT} {k : Nat} {f : Addr} {fd : FuncData} {ps : List Str} {sp : Sp} {dvs : List V} {ds : List Value} {E : XK} {x : Str} {p pos : Pos} {e : Expr} {es : List Expr} {t : TA}
theorem run_fnG {pins : List (Addr × Obj)} {σ : L2.St} {H : Hp} {s : Shared} {Q : VK} {us : List Value} {vs : List V} (F : FnG X.prog X.w X.K X.mg X.base CX k f fd ps sp) (hr : Room k X.A) (hg : X.A.guards = some []) (hb : Binds X.K fd ps ds) (hd : Vals dvs ds) (hx : Passes CX X E)
    (I : Inv X pins σ H s) (r : Vals vs us) (h : sp (vs ++ dvs) H Q E) : wpAny (model X.prog X.w) X.A (call (.ref f) us) (EP X pins σ Q) X.xe s := by
  have r2 : Vals (vs ++ dvs) (us ++ ds) := r.append hd
  have hl : (us ++ ds).length = ps.length := by rw [← r2.length]; exact F.len _ _ _ _ h
  refine wpAny_call (codeAny_mono (F.run X.A X.stack s H ⟨us, []⟩ (us ++ ds) (vs ++ dvs) Q E hr hg I.env0 (hb s us I.kIn hl) r2 h) fun r' s' q => ?_)
  cases r' with
  | error er => exact hx pins σ H s er s' I q
  | ok fl =>
    cases fl with
    | ret u => exact I.after q
    | next => exact False.elim q
    | brk => exact False.elim q
    | cont => exact False.elim q
theorem pe_callG (F : FnG X.prog X.w X.K X.mg X.base CX k f fd ps sp) (hr : Room k X.A) (hgd : X.A.guards = some []) (hg : Gl X x) (hm : X.mg x = some (.ref f)) (hk : PySem.W.keepIn X.K (.ref f) = true) (hb : Binds X.K fd ps ds) (hd : Vals dvs ds) (hx : Passes CX X E) (ha : PA X (e :: es) t) (hdb : (x == ("__debug__" : Str)) = false := by decide)
    (he : starEach (e :: es) X.env = (false, eval e X.env) :: starEach es X.env := by rfl) (hpl : (backTo pos (starEach es X.env)).any (·.1) = false := by rfl) : PE X (.Call (.Name x p) (e :: es) [] pos) (tCall sp dvs E t) := by
  refine ⟨fun pins s σ H Q I h => ?_⟩
  refine wpAny_Call_Name_kw (ld_glob I hg hm ?_ hdb)
  exact PySem.W.callWith_K (h₀ := X.base) I.ok.mod.kin hk (thn (ha.run pos pins s σ H _ I h) fun us s2 ⟨vs, H2, I2, r, q⟩ => ⟨I2.kIn, run_fnG F hr hgd hb hd hx I2 r q⟩) he hpl
/-! ### repr of data -/
def rRepr (K : PySem.W.Frag) : List V → Hp → VK → Prop := fun xs H Q => ∃ (x : V) (d : PyData), xs = [x] ∧ Dp K H x d ∧ d.showable = true ∧ d.hasDict = false ∧ d.depth ≤ 60 ∧ d.shown.length ≤ sizeLine ∧ Q (.str d.shown) H
theorem call_reprD (hg : X.A.guards = some []) (hu : X.A.units + 64 < cLine) : CallR X (.builtin "repr") (rRepr X.K) := by
  intro pins s σ H xs us Q I r h
  obtain ⟨x, d, rfl, dp, hs, hd, hz, hl, q⟩ := h
  have hus : ∃ u, us = [u] ∧ RelV x u := by
    cases r with
    | cons rv rn => cases rn; exact ⟨_, rfl, rv⟩
  obtain ⟨u, rfl, rv⟩ := hus
  obtain ⟨as, rd⟩ := Dp.reads I d x u dp rv
  have obj : ∀ a : Addr, u = Value.ref a → wpAny (model X.prog X.w) X.A (call (.builtin "repr") [u]) (EP X pins σ Q) X.xe s := by
    intro a e
    subst e
    refine repr_of_reads' rd hs (fun z => by rw [hd] at z; cases z) hg (by omega) (fun _ _ e => e) (fun h' t tk k => ⟨.str _, H, I.kept k, ⟨_, rfl⟩, q⟩) hl
  cases dp with
  | non =>
    cases rv
    exact PySem.P.repr_of_none ⟨.str _, H, I.tok _, ⟨_, rfl⟩, q⟩
  | bl b =>
    cases rv
    refine PySem.P.repr_of_bool ⟨.str _, H, I.tok _, ⟨_, rfl⟩, ?_⟩
    cases b <;> exact q
  | int i =>
    obtain ⟨t, rfl⟩ := rv
    refine PySem.P.repr_of_int ?_ ⟨.str _, H, I.tok _, ⟨_, rfl⟩, q⟩
    have z := hs
    unfold PyData.showable at z
    exact of_decide_eq_true z
  | str z =>
    obtain ⟨t, rfl⟩ := rv
    exact PySem.P.repr_of_str ⟨.str _, H, I.tok _, ⟨_, rfl⟩, q⟩ hl
  | lst h1 h2 => exact obj _ rv
  | tup h1 h2 => exact obj _ rv
end
end TC
set_option maxHeartbeats 2000000
/-! Lambdas without parameters, kept as values and called later: the cells that they read stand in a base. -/
namespace TC
open PySem PySem.Spec PyProof.Rows L2 LamX
/-- a lambda's object -/
abbrev lamObj (q : Str) (params : Arguments) (body : Expr) (scope : Scope) (cl : List (Str × Addr)) (pm : Value) (c : Addr) (ctv : Value) : Obj := PySem.W.kla_obj "<lambda>" q params body scope cl pm c ctv
/-- at f stands a lambda, its code object at c -/
def LamO (f : Addr) (q : Str) (params : Arguments) (body : Expr) (scope : Scope) (cl : List (Str × Addr)) (c : Addr) : HO := .ext fun h => ∃ pm ctv : Value, h.get? f = some (lamObj q params body scope cl pm c ctv)
section
variable {X : Cx} {pins : List (Addr × Obj)} {σ : L2.St} {H : Hp} {s : Shared}
/-- the lambda is made and tracked -/
theorem lam_made {T : List (Addr × Str)} {c P : Addr} {params : Arguments} {body : Expr} {scope : Scope} {pos : Pos} {E : Value → Shared → Prop} {Q : Value → Shared → Prop} (I : Inv X pins σ H s) (TB : TabB X.base X.mg c P) (hcode : X.env.code = .ref c)
    (hm : (P, X.env.qual ++ "<lambda>") ∈ T) (hu : ∀ p ∈ T, p.1 = P → p.2 = X.env.qual ++ "<lambda>") (hT : Tabs T H) (hdef : defaultsOf params X.env = ([], [])) (hfree : ∀ y ∈ scope.names, y.2 = .free → ∃ c, X.env.cells.lookup y.1 = some c)
    (h : ∀ (f c' : Addr) (H1 : Hp) (s' : Shared), Inv X pins σ (upd H1 f (LamO f (X.env.qual ++ "<lambda>") params body scope (cloFrom X.env.cells scope.names []) c')) s' → ExtN H H1 → H1 f = none → Tabs T H1 → H1 c' = some (CodeO c' (X.env.qual ++ "<lambda>")) → Q (.ref f) s') :
    wpAny (model X.prog X.w) X.A (eval (.Lambda params body scope pos) X.env) Q E s := by
  obtain ⟨ps, hP, ht, ha⟩ := hT _ hm
  have bP : s.heap.BuiltinsAt X.mg P := TB.bm.keeps I.bk
  have oP : s.heap.get? P = some { cls := .none, data := .fields ps } := I.hok P _ hP
  -- the object laid on a heap that holds the rest
  have lay : ∀ (H1 : Hp) (h' : Heap) (c' : Addr) (pm ctv : Value) (tk : Nat), Inv X pins σ H1 { s with heap := h', toks := tk } → ExtN H H1 → Tabs T H1 → H1 c' = some (CodeO c' (X.env.qual ++ "<lambda>")) →
      Q (.ref h'.objs.size) { s with heap := h'.push (lamObj (X.env.qual ++ "<lambda>") params body scope (cloFrom X.env.cells scope.names []) pm c' ctv), toks := tk } := by
    intro H1 h' c' pm ctv tk J x1 x2 x3
    have at_ : (h'.push (lamObj (X.env.qual ++ "<lambda>") params body scope (cloFrom X.env.cells scope.names []) pm c' ctv)).get? h'.objs.size = some (lamObj (X.env.qual ++ "<lambda>") params body scope (cloFrom X.env.cells scope.names []) pm c' ctv) := Heap.get?_push_size _ rfl
    have new : ObjOk X.prog X.w (upd H1 h'.objs.size (LamO h'.objs.size (X.env.qual ++ "<lambda>") params body scope (cloFrom X.env.cells scope.names []) c')) (h'.push (lamObj (X.env.qual ++ "<lambda>") params body scope (cloFrom X.env.cells scope.names []) pm c' ctv)) h'.objs.size (LamO h'.objs.size (X.env.qual ++ "<lambda>") params body scope (cloFrom X.env.cells scope.names []) c') :=
      ⟨⟨pm, ctv, at_⟩, ⟨_, at_⟩, fun h1 h2 z k => by obtain ⟨pm', ctv', e⟩ := z; exact ⟨pm', ctv', k _ e⟩⟩
    exact h h'.objs.size c' H1 _ (J.laid (t' := tk) (fun b u e => Heap.get?_push_of_some _ e) (Nat.le_refl _) new) x1 (J.hok.fresh (Nat.le_refl _)) x2 x3
  refine PySem.W.kla_eval hdef ?_
  cases hc : codeAmong pos ps.toList with
  | some cv =>
    obtain ⟨c', e, hco⟩ := ha pos cv hc
    subst e
    refine PySem.W.kla_makeFunctionHit (mg := X.mg) (c := c) (P := P) (ps := ps) (closure_ok hfree) I.ok.glob (I.mod.glob.keeps I.bk) hcode (TB.code.keeps I.bk) oP ht hc bP fun ctv h' tk hx hsz => ?_
    exact lay H h' c' _ ctv tk (I.kept hx) (ExtN.refl H) hT hco
  | none =>
    refine PySem.W.kla_makeFunction (mg := X.mg) (c := c) (P := P) (ps := ps) (closure_ok hfree) I.ok.glob (I.mod.glob.keeps I.bk) hcode (TB.code.keeps I.bk) oP ht hc TB.gP bP fun c' ctv h' tk hx hge hlt hrec htb => ?_
    obtain ⟨c2, oc, vs, t, e2, hoc, hd, hv⟩ := hrec
    cases e2
    have nC : H c' = none := I.hok.fresh hge
    have I1 := inv_table (t' := tk) (more := #[rawInt pos.line, rawInt pos.col, .ref c']) (h' := h') I hP (fun b o hb e => hx b o hb e) htb hge ⟨oc, vs, t, hoc, hd, hv⟩
    have x1 : ExtN H (upd (upd H P (.tbl (ps ++ #[rawInt pos.line, rawInt pos.col, .ref c']))) c' (CodeO c' (X.env.qual ++ "<lambda>"))) := fun b o e n => by
      rw [upd_ne (ne_of_none e nC), upd_ne (fun z => n ps (Option.some.inj (e.symm.trans (by rw [z]; exact hP))))]
      exact e
    have eL : (ps ++ #[rawInt pos.line, rawInt pos.col, .ref c']).toList = ps.toList ++ [rawInt pos.line, rawInt pos.col, .ref c'] := by simp
    refine lay _ h' c' _ ctv tk I1 x1 (fun p hp => ?_) upd_same
    by_cases hb : p.1 = P
    · rw [hu p hp hb, hb]
      refine ⟨_, by rw [upd_ne (ne_of_none hP nC), upd_same], by rw [eL]; exact PySem.TriplesOk_snoc _ _ _ _ ht, fun p' cv hcv => ?_⟩
      rw [eL] at hcv
      rcases among_app _ ht hcv with z | z
      · obtain ⟨c0, e1, e2⟩ := ha p' cv z
        exact ⟨c0, e1, x1 _ _ e2 codeO_ne⟩
      · exact ⟨c', z, upd_same⟩
    · obtain ⟨ps', a1, a2, a3⟩ := hT p hp
      refine ⟨ps', by rw [upd_ne (ne_of_none a1 nC), upd_ne hb]; exact a1, a2, fun p' cv hcv => ?_⟩
      obtain ⟨c0, e1, e2⟩ := a3 p' cv hcv
      exact ⟨c0, e1, x1 _ _ e2 codeO_ne⟩
/-- as a value -/
def tLamb (T : List (Addr × Str)) (q : Str) (params : Arguments) (body : Expr) (scope : Scope) (cl : List (Str × Addr)) : TE := fun _ H Q => Tabs T H ∧ ∀ (f c' : Addr) (H1 : Hp), ExtN H H1 → H1 f = none → Tabs T H1 → H1 c' = some (CodeO c' q) → Q (.ref f) (upd H1 f (LamO f q params body scope cl c'))
theorem pe_lamb {T : List (Addr × Str)} {c P : Addr} {params : Arguments} {body : Expr} {scope : Scope} {pos : Pos} (TB : TabB X.base X.mg c P) (hcode : X.env.code = .ref c) (hm : (P, X.env.qual ++ "<lambda>") ∈ T) (hu : ∀ p ∈ T, p.1 = P → p.2 = X.env.qual ++ "<lambda>")
    (L : LamS X.env.scope scope) (hdef : defaultsOf params X.env = ([], [])) : PE X (.Lambda params body scope pos) (tLamb T (X.env.qual ++ "<lambda>") params body scope (cloFrom X.env.cells scope.names [])) := by
  refine ⟨fun pins s σ H Q I h => ?_⟩
  exact lam_made I TB hcode hm hu h.1 hdef (L.has I.ok) fun f c' H1 s' J x1 x2 x3 x4 => ⟨.ref f, _, J, rfl, h.2 f c' H1 x1 x2 x3 x4⟩
end
/-! ### a thunk: what is called without arguments -/
def Thunk (P : Program) (w : World) (K : PySem.W.Frag) (mg : Str → Option Value) (base : Heap) (k : Nat) (f : Addr) (H : Hp) (Q : VK) (E : XK) : Prop :=
  ∀ (A : Around) (outer : List Env) (s : Shared), Room k A → A.guards = some [] → Env0 P w K mg base A outer s H → PySem.W.FnAt f s.heap ∧ codeAny (model P w) A (.call (.ref f) ⟨[], []⟩) (CR (L2.CX P w) outer P w H s Q E) s
/-- the context of a lambda's body -/
def lamC (P : Program) (w : World) (K : PySem.W.Frag) (mg : Str → Option Value) (base : Heap) (N : List Str) (q : Str) (scope : Scope) (f c : Addr) (cl : List (Str × Addr)) (A : Around) (outer : List Env) (s : Shared) (H : Hp) (E : XK) : Cx where
  prog := P
  w := w
  K := K
  mg := mg
  base := base
  A := A.deeper (PySem.W.envX q scope s.heap.objs.size f (.ref c) cl)
  N := N
  s_0 := s
  H_0 := H
  env := PySem.W.envX q scope s.heap.objs.size f (.ref c) cl
  outer := outer
  stack := PySem.W.envX q scope s.heap.objs.size f (.ref c) cl :: outer
  ex := []
  fn := fun _ => false
  calm := true
  pn := []
  xe := fun e s' => wpAny (model P w) (A.deeper (PySem.W.envX q scope s.heap.objs.size f (.ref c) cl)) (leaving (PySem.W.envX q scope s.heap.objs.size f (.ref c) cl) e) (fun _ s'' => L2.CX P w outer H s E e s'') (fun e' s'' => L2.CX P w outer H s E e' s'') s'
/-- what is known of the cells -/
structure CellsIn (base : Heap) (cl : List (Str × Addr)) (scope : Scope) (N : List Str) (σ : L2.St) : Prop where
  inj : ∀ x y c, cl.lookup x = some c → cl.lookup y = some c → x = y
  has : ∀ x, scope.names.lookup x = some .free → ∃ c, cl.lookup x = some c
  cell : ∀ x c, cl.lookup x = some c → ∃ v, base.IsCell c v
  val : ∀ (i : Nat) x v, N[i]? = some x → σ[i]? = some (some v) → scope.names.lookup x = some .free → ∃ c u, cl.lookup x = some c ∧ base.IsCell c (some u) ∧ RelV v u
  len : σ.length = N.length
structure LamP (scope : Scope) : Prop where
  kind : scope.kind = .function
  co : scope.isCoroutine = false
  gen : scope.isGenerator = false
  own : ∀ y ∈ scope.names, y.2 ≠ .local ∧ y.2 ≠ .cell
theorem lam_thunk {P : Program} {w : World} {K : PySem.W.Frag} {mg : Str → Option Value} {base : Heap} {k : Nat} {f c : Addr} {H : Hp} {Q : VK} {E : XK} {N : List Str} {σ : L2.St} {q : Str} {params : Arguments} {body : Expr} {scope : Scope} {cl : List (Str × Addr)} {t : TE}
    (L : LamP scope) (C : CellsIn base cl scope N σ) (hf : H f = some (LamO f q params body scope cl c)) (hc : H c = some (CodeO c q)) (hbind : ∀ (pm cv ctv : Value), bindArgs (PySem.W.kla_fn "<lambda>" q params body scope cl pm cv ctv) ⟨[], []⟩ = pure [])
    (hbody : ∀ (A : Around) (outer : List Env) (s : Shared), Room k (A.deeper (PySem.W.envX q scope s.heap.objs.size f (.ref c) cl)) → A.guards = some [] → PE (lamC P w K mg base N q scope f c cl A outer s H E) body t) (ht : t σ H Q) : Thunk P w K mg base (k + 1) f H Q E := by
  intro A outer s hr hg e0
  obtain ⟨⟨pm, ctv, of⟩, _, _⟩ := e0.hok f _ hf
  obtain ⟨⟨oc, vs, tq, hoc, hdc, hvc⟩, _, _⟩ := e0.hok c _ hc
  refine ⟨⟨_, _, _, _, of⟩, ?_⟩
  have lim : s.heap.NoLimit := e0.mod.nolimit.keeps fun b o e => (e0.bs b o e).1
  refine PySem.W.kla_callFunE hr.depth of rfl L.co L.gen rfl ⟨c, oc, vs, tq, rfl, hoc, hdc, hvc⟩ ?_
  rw [hbind]
  refine wpAny_pure (wpAny_newFunctionEnv (fun y hy => (L.own y hy).2) (fun y hy => absurd hy (by simp)) (fun h₁ hns hsb => ⟨lim.fresh _ hsb, ?_⟩) L.kind)
  show codeAny _ _ (.expr body (PySem.W.envX q scope s.heap.objs.size f (.ref c) cl)) _ _
  have kp : ∀ b o, s.heap.get? b = some o → h₁.get? b = some o := fun b o e => hsb.extBut b o (Nat.ne_of_lt (Heap.lt_size e)) (Heap.get?_push_of_some _ e)
  have bc : ∀ {c : Addr} {v : Option Value}, base.IsCell c v → h₁.IsCell c v ∧ H c = none := fun {c v} ⟨o, ho, hd⟩ => ⟨⟨o, kp _ _ (e0.bs _ _ ho).1, hd⟩, (e0.bs _ _ ho).2⟩
  have J : Inv (lamC P w K mg base N q scope f c cl A outer s H E) [] σ H { s with heap := h₁, toks := s.toks + ([] : List (Str × Value)).length } := by
    refine ⟨⟨e0.mod, L.kind, rfl, rfl, Nat.le_refl _, C.inj, fun x hx => ?_, (fun y c z _ => Bool.noConfusion (show false = true from z)), fun _ => hr.hd, Around.frames_deeper e0.frames, .inr ⟨rfl, rfl⟩, (fun b z => absurd (show b ∈ ([] : List Addr) from z) (by simp)), e0.bs, e0.bsz, (fun b _ _ z => absurd (show b ∈ ([] : List Addr) from z) (by simp)), (fun b z => absurd (show b ∈ ([] : List Addr) from z) (by simp)), e0.funs, e0.frf⟩,
      rfl, e0.bare, Un.kept kp, ⟨_, hns, fun i x v e1 e2 e3 => ?_⟩, fun x c e => ?_, e0.hok.fresh (Nat.le_refl _), fun x c e => ?_, fun p hp => absurd (show p ∈ ([] : List (Addr × Obj)) ++ [] from hp) (by simp), e0.hok.kept kp, C.len⟩
    · rcases hx with z | z
      · exact absurd rfl (L.own _ (PySem.mem_of_lookup z)).2
      · exact C.has x z
    · rcases e3 with z | z | z
      · exact absurd rfl (L.own _ (PySem.mem_of_lookup z)).1
      · exact absurd rfl (L.own _ (PySem.mem_of_lookup z)).2
      · obtain ⟨c0, u, g1, g2, g3⟩ := C.val i x v e1 e2 z
        exact ⟨u, g3, .inr ⟨.inr z, c0, g1, (bc g2).1⟩⟩
    · obtain ⟨v, z⟩ := C.cell x c e
      exact ⟨v, (bc z).1⟩
    · obtain ⟨v, z⟩ := C.cell x c e
      exact (bc z).2
  refine PySem.W.kla_codeExpr (wpAny_mono ((hbody A outer s (hr.deeper _) hg).run [] _ _ H Q J ht) (fun v s' hq => ?_) fun e s' hq => hq)
  obtain ⟨v', H', J', rv, z⟩ := hq
  exact ⟨v', H', J'.os, J'.bare, J'.base, J'.hok, rv, z⟩
/-! ### its call by a name -/
section
variable {X : Cx}
def tThunk (P : Program) (w : World) (K : PySem.W.Frag) (mg : Str → Option Value) (base : Heap) (k i : Nat) (W : WX) : TE := fun σ H Q => ∃ f : Addr, σ[i]? = some (some (.ref f)) ∧ Thunk P w K mg base k f H Q (fun cls d H' => ∀ σ', W cls d σ' H')
theorem pe_thunk {W : WX} {i k : Nat} {x : Str} {p pos : Pos} (hr : Room k X.A) (hg : X.A.guards = some []) (hx : Passes (L2.CX X.prog X.w) X (fun cls d H' => ∀ σ', W cls d σ' H')) (hN : X.N[i]? = some x) (hv : Vis X.env.scope x) (hdb : (x == ("__debug__" : Str)) = false := by decide) (hcd : (x == ("__classdict__" : Str)) = false := by decide) :
    PE X (.Call (.Name x p) [] [] pos) (tThunk X.prog X.w X.K X.mg X.base k i W) := by
  refine ⟨fun pins s σ H Q I h => ?_⟩
  obtain ⟨f, hs, th⟩ := h
  refine wpAny_Call_Name_kw (thn ((pe_var (pos := p) hN hv hdb hcd).run pins s σ H (fun v H1 => v = .ref f ∧ H1 = H) I ⟨.ref f, hs, rfl, rfl⟩) fun u s1 ⟨v, H1, I1, r1, q1⟩ => ?_)
  obtain ⟨rfl, rfl⟩ := q1
  obtain rfl : u = Value.ref f := r1
  obtain ⟨fa, rc⟩ := th X.A X.stack s1 hr hg I1.env0
  refine PySem.W.callWith_F0 fa (wpAny_call (codeAny_mono rc fun r s' hq => ?_))
  cases r with
  | error e => exact hx pins σ _ s1 e s' I1 hq
  | ok fl =>
    cases fl with
    | ret u => exact I1.after hq
    | next => exact False.elim hq
    | brk => exact False.elim hq
    | cont => exact False.elim hq
end
end TC
set_option maxHeartbeats 2000000
/-! A list comprehension whose tests and element may use what is known at its entry; the base with the frame's cells. -/
namespace TC
open PySem PySem.Spec PyProof.Rows L2 LamX
/-! ### the base, with this frame's cells as they stand -/
structure Based (X : Cx) (s : Shared) (H : Hp) (B : Heap) : Prop where
  mod : L2.Mod X.K X.mg B
  old : ∀ b o, X.base.get? b = some o → B.get? b = some o
  bs : ∀ b o, B.get? b = some o → s.heap.get? b = some o ∧ H b = none ∧ b ∉ frs X.stack ∧ ((∃ o', X.base.get? b = some o') ∨ ∃ x, X.env.cells.lookup x = some b)
  sz : B.objs.size ≤ s.heap.objs.size
  cell : ∀ x c v, X.env.cells.lookup x = some c → s.heap.IsCell c v → B.IsCell c v
theorem mem_of_look {α : Type} {x : Str} {v : α} : ∀ {l : List (Str × α)}, l.lookup x = some v → v ∈ l.map (·.2)
  | [], h => by cases h
  | (y, u) :: r, h => by
    rw [List.lookup_cons] at h
    cases e : (x == y) with
    | true => rw [e] at h; cases h; exact List.mem_cons_self ..
    | false => rw [e] at h; exact List.mem_cons_of_mem _ (mem_of_look h)
section
variable {X : Cx} {pins : List (Addr × Obj)} {σ : L2.St} {H : Hp} {s : Shared}
theorem based (I : Inv X pins σ H s) (hfn : ∀ x, X.fn x = true) : ∃ B, Based X s H B := by
  let keepB : Addr → Bool := fun b => (X.base.get? b).isSome || X.env.cells.any (fun p => decide (X.env.cells.lookup p.1 = some b))
  let out : List Addr := (List.range s.heap.objs.size).filter fun b => !keepB b
  have get : ∀ b o, s.heap.get? b = some o → keepB b = true → (PySem.W.hideAll s.heap out).get? b = some o := fun b o e hk => PySem.W.hideAll_get out e fun hm => by
    have z := (List.mem_filter.mp hm).2
    rw [hk] at z
    cases z
  have back : ∀ b o, (PySem.W.hideAll s.heap out).get? b = some o → s.heap.get? b = some o ∧ keepB b = true := fun b o e => by
    have e' := PySem.W.of_hideAll out e
    refine ⟨e', ?_⟩
    cases hk : keepB b with
    | true => rfl
    | false =>
      have hm : b ∈ out := List.mem_filter.mpr ⟨List.mem_range.mpr (Heap.lt_size e'), by rw [hk]; rfl⟩
      rw [PySem.W.hideAll_none out hm] at e
      cases e
  have old : ∀ b o, X.base.get? b = some o → (PySem.W.hideAll s.heap out).get? b = some o := fun b o e => get b o (I.bk b o e) (by show ((X.base.get? b).isSome || _) = true; rw [e]; rfl)
  have inK : ∀ x c, X.env.cells.lookup x = some c → keepB c = true := fun x c e => by
    have hx : X.env.cells.any (fun p => decide (X.env.cells.lookup p.1 = some c)) = true := List.any_eq_true.mpr ⟨(x, c), PySem.mem_of_lookup e, decide_eq_true e⟩
    show ((X.base.get? c).isSome || X.env.cells.any (fun p => decide (X.env.cells.lookup p.1 = some c))) = true
    rw [hx, Bool.or_true]
  refine ⟨PySem.W.hideAll s.heap out, ⟨I.ok.mod.kin.keeps old, I.ok.mod.glob.keeps old, ?_, I.ok.mod.nolimit.keeps old⟩, old, fun b o e => ?_, Nat.le_of_eq (PySem.W.hideAll_size _ _), fun x c v e ⟨o, ho, hd⟩ => ⟨o, get c o ho (inK x c e), hd⟩⟩
  · obtain ⟨mb, h1, h2⟩ := I.ok.mod.blt
    exact ⟨mb, h1.keeps old, h2⟩
  · obtain ⟨e', hk⟩ := back b o e
    have hk' : ((X.base.get? b).isSome || X.env.cells.any (fun p => decide (X.env.cells.lookup p.1 = some b))) = true := hk
    rcases Bool.or_eq_true_iff.mp hk' with z | z
    · obtain ⟨o', eo⟩ := Option.isSome_iff_exists.mp z
      refine ⟨e', (I.bs b o' eo).2, fun hm => ?_, .inl ⟨o', eo⟩⟩
      have y := (I.stack.mem hm).1
      rw [eo] at y
      cases y
    · obtain ⟨⟨x, xc⟩, _, ex'⟩ := List.any_eq_true.mp z
      have ex : X.env.cells.lookup x = some b := of_decide_eq_true ex'
      refine ⟨e', I.freeC x b ex, fun hm => ?_, .inr ⟨x, ex⟩⟩
      rcases List.mem_cons.mp (I.stkSub b hm) with y | y
      · exact I.cne x b ex y
      · obtain ⟨_, o2, ho2, _⟩ := I.ok.funs.mem y
        exact absurd (Nat.lt_of_lt_of_le (Heap.lt_size ho2) (I.ok.cab x b (hfn x) ex)) (Nat.lt_irrefl _)
theorem Based.fun_ {B : Heap} (b : Based X s H B) : ∀ {l : List Env} {h : Heap}, (∀ L ∈ frs l, L ∈ frs X.stack) → h.FunFrames X.base l → h.FunFrames B l
  | [], _, _, _ => trivial
  | env :: r, h, hs, ⟨hk, ⟨L, o, hf, hn, ho, hd⟩, hr⟩ => by
    have mem : ∀ L' ∈ frs r, L' ∈ frs (env :: r) := fun L' hm => by
      unfold frs
      rw [List.filterMap_cons, hf]
      exact List.mem_cons_of_mem _ hm
    refine ⟨hk, ⟨L, o, hf, ?_, ho, hd⟩, Based.fun_ b (fun L' hm => hs L' (mem L' hm)) hr⟩
    cases e : B.get? L with
    | none => rfl
    | some u =>
      refine absurd (hs L ?_) (b.bs L u e).2.2.1
      unfold frs
      rw [List.filterMap_cons, hf]
      exact List.mem_cons_self ..
/-- what stands at a block's entry -/
def Entry (X : Cx) (σ : L2.St) (s : Shared) (H : Hp) (fp : List Addr) : Prop := ∃ pins, Inv X pins σ H s ∧ ∀ b ∈ fp, FpOk X pins H b ∧ b < s.heap.objs.size
/-- from a state of the block: what a callee wants, over the greater base -/
theorem Based.env0 {B : Heap} {scope : Scope} {cenv : Env} {fp : List Addr} {pins1 : List (Addr × Obj)} {σ1 : L2.St} {H1 : Hp} {s1 : Shared} (b : Based X s H B) (hfp : ∀ a ∈ fp, FpOk X pins H a) (I1 : Inv (X.blk s H scope cenv fp) pins1 σ1 H1 s1) :
    Env0 X.prog X.w X.K X.mg B X.A X.stack s1 H1 := by
  have e := I1.env0
  have out : ∀ c o, B.get? c = some o → c ∉ fp := fun c o ec hm => by
    rcases (b.bs c o ec).2.2.2 with ⟨o', z⟩ | ⟨x, z⟩
    · exact I1.ok.noex c o' z hm
    · exact (hfp c hm).2.2.2.2.1 x c z rfl
  refine ⟨e.frames, b.mod, fun c o ec => ?_, Nat.le_trans b.sz I1.sz, ?_, e.frf, e.hok, e.bare⟩
  · obtain ⟨h1, h2, h3, _⟩ := b.bs c o ec
    exact ⟨I1.base.keep c o h1 h2 h3 (out c o ec), I1.base.free c o h1 h2 (out c o ec)⟩
  · exact b.fun_ (fun _ hm => hm) e.funs
end
section
variable {X : Cx}
theorem lcE_core {pins : List (Addr × Obj)} {s : Shared} {σ : L2.St} {H : Hp} {Q : VK} {elt tg iter : Expr} {ifs : List Expr} {scope : Scope} {own : List (Str × Nat)} {pos pos' : Pos} {wi : TI} {g : TG} {tt : TT} {te : TE} {Qf : Value → Shared → Prop}
    (hc : X.calm = true) (hN : X.N.Nodup) (I : Inv X pins σ H s) (hi : PI X tg iter wi) (ok : BlkOk X.N X.env.scope scope own) (hg : ∀ (s : Shared) (H : Hp) (C : Addr) (cl : List (Str × Addr)) (fp : List Addr), PG (X.blk s H scope (compEnvC scope cl C X.env) fp) tg g)
    (ht : ∀ (s : Shared) (H : Hp) (C : Addr) (cl : List (Str × Addr)) (fp : List Addr), Entry X σ s H fp → PTs (X.blk s H scope (compEnvC scope cl C X.env) fp) ifs tt)
    (he : ∀ (s : Shared) (H : Hp) (C : Addr) (cl : List (Str × Addr)) (fp : List Addr), Entry X σ s H fp → PE (X.blk s H scope (compEnvC scope cl C X.env) fp) elt te) (hs : ∀ x, foldedSetIterable iter X.env x = pure x) (h : tLc wi g tt te (own.map (·.2)) σ H Q)
    (hend : ∀ D C s' m H', Inv X pins σ H' s' → Q (.ref D) H' → s'.heap.Ns C m → FpOk X pins H' C → compPost (model X.prog X.w) X.A X.xe none Qf (.ref D) C (.ok .next) s') :
    wpAny (model X.prog X.w) X.A (comprehension (.ListComp elt [⟨tg, iter, ifs, 0⟩] scope pos) scope X.env pos' (newList []) false (eval iter X.env) none) Qf X.xe s := by
  have free : ∀ y ∈ scope.names, y.2 = .free → ∃ c, X.env.cells.lookup y.1 = some c := by
    intro y hy e
    rcases ok.free y hy e with k | k
    · exact I.ok.has _ (.inl k)
    · exact I.ok.has _ (.inr k)
  refine wpAny_comprehension_free (use := none) rfl hs (closure_ok free) ok.kind (fun y hy e => by rw [ok.uniq y hy, e]) (thn (hi.run pins s σ H _ I h) fun xv s1 hx => thn hx fun itv s2 h2 => ?_)
  obtain ⟨it, fp, tn, J, H2, e, I2, T, st2, f2, q⟩ := h2
  subst e
  refine wpAny_newObj_type (newEnv_comp ?_) (by show 0 ≤ sizeLine; decide)
  generalize hD : s2.heap.objs.size = D
  obtain ⟨W, ⟨m0, w0⟩, turn⟩ := q D (I2.hok.fresh (Nat.le_of_eq hD))
  generalize hs3 : ({ s2 with heap := s2.heap.push { cls := .type "list", data := .seq ([] : List Value).toArray } } : Shared) = s3
  have h3 : s3.heap = s2.heap.push { cls := .type "list", data := .seq ([] : List Value).toArray } := by rw [← hs3]
  have I3 : Inv X pins σ (upd H2 D (.lst [])) s3 := by
    rw [← hs3]
    refine I2.laid (t' := s2.toks) (fun b o e => Heap.get?_push_of_some _ e) (Nat.le_of_eq hD) ⟨Nat.zero_le _, [], 0, .nil, ?_⟩
    rw [← hD]
    exact Heap.get?_push_size _ rfl
  have f3 : ∀ b ∈ fp, FpOk X pins (upd H2 D (.lst [])) b ∧ b < s3.heap.objs.size := by
    intro b hb
    obtain ⟨o, eo, _⟩ := T.obj _ _ st2 b hb
    have lt := Heap.lt_size eo
    refine ⟨⟨?_, (f2 b hb).2⟩, by rw [h3, Heap.size_push]; exact Nat.lt_succ_of_lt lt⟩
    rw [upd_ne (by rw [← hD]; exact Nat.ne_of_lt lt)]
    exact (f2 b hb).1
  have st3 : tn 0 s3.heap := T.keep _ _ _ st2 fun b _ o e => by rw [h3]; exact Heap.get?_push_of_some _ e
  have I4 := block_start I3 ok hN f3
  have ent : Entry X σ s3 (upd H2 D (.lst [])) fp := ⟨pins, I3, f3⟩
  have pg := hg s3 (upd H2 D (.lst [])) s3.heap.objs.size (cellsFrom (s3.heap.objs.size + 1) scope.names (cloFrom X.env.cells scope.names [])) fp
  have pt := ht s3 (upd H2 D (.lst [])) s3.heap.objs.size (cellsFrom (s3.heap.objs.size + 1) scope.names (cloFrom X.env.cells scope.names [])) fp ent
  have pe := he s3 (upd H2 D (.lst [])) s3.heap.objs.size (cellsFrom (s3.heap.objs.size + 1) scope.names (cloFrom X.env.cells scope.names [])) fp ent
  have nfp : ∀ b ∈ fp, (upd H2 D (.lst [])) b = none := fun b hb => (f3 b hb).1.1
  show codeAny _ _ (.compStart (.ListComp elt [⟨tg, iter, ifs, 0⟩] scope pos) 0 (.ref it) (.ref D) (compEnvC scope (cellsFrom (s3.heap.objs.size + 1) scope.names (cloFrom X.env.cells scope.names [])) s3.heap.objs.size X.env)) (compPost (model X.prog X.w) X.A X.xe none Qf (.ref D) s3.heap.objs.size) { s3 with heap := pushCells (s3.heap.push { cls := .type "dict", data := .dict #[] }) scope.names }
  generalize hce : compEnvC scope (cellsFrom (s3.heap.objs.size + 1) scope.names (cloFrom X.env.cells scope.names [])) s3.heap.objs.size X.env = ce at I4 pg pt pe ⊢
  have cL : ce.locals = s3.heap.objs.size := by subst hce; rfl
  generalize hH3 : upd H2 D (.lst []) = H3 at I3 I4 pg pt pe w0 nfp f3
  generalize hs4 : ({ s3 with heap := pushCells (s3.heap.push { cls := .type "dict", data := .dict #[] }) scope.names } : Shared) = s4 at I4 ⊢
  have st4 : tn 0 s4.heap := T.keep _ _ _ st3 fun b _ o e => by rw [← hs4]; exact pushCells_keeps _ _ _ _ (Heap.get?_push_of_some _ e)
  have stat : ∀ {σ' : L2.St} {H' : Hp} {s' : Shared}, Inv (X.blk s3 H3 scope ce fp) [] σ' H' s' → (∀ b ∈ fp, H' b = none) → ∀ b ∈ fp, FpOk (X.blk s3 H3 scope ce fp) [] H' b := fun {σ' H' s'} I' hn b hb =>
    ⟨hn b hb, (I'.ok.exf b hb).1, I'.ok.exfs b hb, .inl hb, (fun x c e => (I'.ok.exf b hb).2 x c e), (fun p hp => absurd (show p ∈ ([] : List (Addr × Obj)) ++ [] from hp) (by simp))⟩
  refine codeAny_compStart_list ?loop (T.self X.A 0 _ _ _ st4 ?loop)
  refine compLoop_any (fun n s' => ∃ i H', Inv (X.blk s3 H3 scope ce fp) [] (wipe σ (own.map (·.2))) H' s' ∧ tn i s'.heap ∧ (∀ b ∈ fp, H' b = none) ∧ W i n H') ?_ m0 ⟨0, H3, I4, st4, nfp, w0⟩
  rintro n s5 ⟨i, H5, I5, st5, n5, w5⟩
  rcases turn i n H5 w5 with ⟨stop, qq⟩ | ⟨go, Nx, hNx, step⟩
  · refine thnF (T.done (X.blk s3 H3 scope ce fp) rfl rfl rfl hc i [] s5 _ H5 (fun _ _ => False) I5 (stat I5 n5) st5 stop) fun r s6 ⟨hr, I6⟩ => ?_
    subst hr
    have I7 : Inv X pins σ H5 s6 := I3.call' (ch := fp) I6.os I6.base I6.hok I6.bare fun b hb => ⟨(f3 b hb).1.2.2.2.1, (f3 b hb).1.2.1, (f3 b hb).1.2.2.2.2.1, (f3 b hb).1.2.2.2.2.2⟩
    have nC : H5 s3.heap.objs.size = none := by rw [← cL]; exact I6.free
    obtain ⟨m, hn, _⟩ := I6.loc
    have hn : s6.heap.Ns ce.locals m := hn
    rw [cL] at hn
    exact hend D s3.heap.objs.size s6 m H5 I7 qq hn (I3.fpOk (Nat.le_refl _) nC)
  · refine thnF (T.item (X.blk s3 H3 scope ce fp) rfl rfl rfl hc i [] s5 _ H5 (fun _ _ => False) I5 (stat I5 n5) st5 go) fun r s6 ⟨u, hr, h6⟩ => ?_
    subst hr
    refine thnF h6 fun _ s7 ⟨x, H7, I7, r7, y7, st7, n7⟩ => ?_
    refine thnF (pg.run _ s7 _ H7 x u _ (I7.pinned (stat I7 n7) (T.obj _ _ st7)) r7 (step x H7 y7)) fun _ s8 ⟨σ8, H8, I8, hw8, q8⟩ => ?_
    have fin : ∀ {s' : Shared} {H' : Hp}, Inv (X.blk s3 H3 scope ce fp) ([] ++ pinsAt fp s7.heap) σ8 H' s' → Nx H' → ∃ m, m < n ∧ ∃ i H', Inv (X.blk s3 H3 scope ce fp) [] (wipe σ (own.map (·.2))) H' s' ∧ tn i s'.heap ∧ (∀ b ∈ fp, H' b = none) ∧ W i m H' := by
      intro s' H' I' nx
      obtain ⟨m', hm, w'⟩ := hNx H' nx
      have at_ : ∀ b ∈ fp, ∀ o, s7.heap.get? b = some o → s'.heap.get? b = some o ∧ H' b = none := fun b hb o e =>
        let z := I'.pin (b, o) (List.mem_append_right _ (List.mem_append_right _ (mem_pinsAt hb e)))
        ⟨z.1, z.2.1⟩
      refine ⟨m', hm, i + 1, H', (I'.unpinned (pins := [])).weak (by rw [← hw8, wipe_length]) (fun j v e => ?_), T.keep _ _ _ st7 fun b hb o e => (at_ b hb o e).1, fun b hb => ?_, w'⟩
      · rw [← hw8] at e
        exact (wipe_some e).1
      · obtain ⟨o, e, _⟩ := T.obj _ _ st7 b hb
        exact (at_ b hb o e).2
    refine thnF (pt.run _ s8 σ8 H8 _ I8 q8) fun b s9 ⟨H9, I9, q9⟩ => ?_
    cases b with
    | false =>
      simp only [Bool.false_eq_true, if_false] at q9 ⊢
      exact fin I9 q9
    | true =>
      simp only [if_true] at q9 ⊢
      refine thnF (pe.run _ s9 σ8 H9 _ I9 q9) fun z s10 ⟨yv, H10, I10, r10, acc, hD10, hz10, nx⟩ => ?_
      exact app_ok (X := X.blk s3 H3 scope ce fp) I10 hD10 hz10 r10 fun s11 I11 => fin I11 nx
/-- as a value -/
theorem pe_lcE {elt tg iter : Expr} {ifs : List Expr} {scope : Scope} {own : List (Str × Nat)} {pos : Pos} {wi : TI} {g : TG} {tt : L2.St → TT} {te : L2.St → TE} (hc : X.calm = true) (hN : X.N.Nodup) (hi : PI X tg iter wi) (ok : BlkOk X.N X.env.scope scope own)
    (hg : ∀ (s : Shared) (H : Hp) (C : Addr) (cl : List (Str × Addr)) (fp : List Addr), PG (X.blk s H scope (compEnvC scope cl C X.env) fp) tg g)
    (ht : ∀ (σ : L2.St) (s : Shared) (H : Hp) (C : Addr) (cl : List (Str × Addr)) (fp : List Addr), Entry X σ s H fp → PTs (X.blk s H scope (compEnvC scope cl C X.env) fp) ifs (tt σ))
    (he : ∀ (σ : L2.St) (s : Shared) (H : Hp) (C : Addr) (cl : List (Str × Addr)) (fp : List Addr), Entry X σ s H fp → PE (X.blk s H scope (compEnvC scope cl C X.env) fp) elt (te σ)) (hs : ∀ x, foldedSetIterable iter X.env x = pure x := by intro _; rfl) :
    PE X (.ListComp elt [⟨tg, iter, ifs, 0⟩] scope pos) (fun σ H Q => tLc wi g (tt σ) (te σ) (own.map (·.2)) σ H Q) := by
  refine ⟨fun pins s σ H Q I h => ?_⟩
  rw [eval_ListComp]
  refine lcE_core hc hN I hi ok hg (ht σ) (he σ) hs h fun D C s' m H' I' q hn f => ⟨m, hn, fun h'' sb => ?_⟩
  obtain ⟨f0, f1, f2, f3, f4, f5⟩ := f
  exact ⟨.ref D, H', I'.turned (t' := s'.toks) (fun b o hb e => (sb.2 b hb).trans e) f0 f1 f3 f4 f5, rfl, q⟩
end
end TC
set_option maxHeartbeats 2000000
/-! Walks over what may be a list or a tuple; enumerate of it; [::-1] of a tuple. -/
namespace TC
open PySem PySem.Spec PyProof.Rows L2
/-- a list (false), a tuple (true) of xs at a -/
def SqB (K : PySem.W.Frag) (H : Hp) (b : Bool) (a : Addr) (xs : List V) : Prop := if b = true then SqT K H a xs else SqL K H a xs
theorem SqB.t {K : PySem.W.Frag} {H : Hp} {a : Addr} {xs : List V} (h : SqT K H a xs) : SqB K H true a xs := h
theorem SqB.l {K : PySem.W.Frag} {H : Hp} {a : Addr} {xs : List V} (h : SqL K H a xs) : SqB K H false a xs := h
theorem SqB.or {K : PySem.W.Frag} {H : Hp} {b : Bool} {a : Addr} {xs : List V} (h : SqB K H b a xs) : SqL K H a xs ∨ SqT K H a xs := by
  cases b with
  | true => exact .inr h
  | false => exact .inl h
theorem SqB.ex {K : PySem.W.Frag} {H H' : Hp} {b : Bool} {a : Addr} {xs : List V} (e : Evl.Ex H H') (h : SqB K H b a xs) : SqB K H' b a xs := by
  cases b with
  | true => exact Evl.ex_t e h
  | false => exact Evl.ex_l e h
def ItB (K : PySem.W.Frag) (b : Bool) (a : Addr) : It := if b = true then Itt K a else Itl K a
theorem walk_B {K : PySem.W.Frag} {b : Bool} {a : Addr} {xs : List V} : Walk (ItB K b a) xs.length (fun H => SqB K H b a xs) (YAt xs) := by
  cases b with
  | true => exact walk_tup
  | false => exact walk_list
/-! ### for x in l -/
def iAny (K : PySem.W.Frag) (tl : TE) : TI := fun σ H R => tl σ H fun x H1 => ∃ b a, x = .ref a ∧ (∃ xs, SqB K H1 b a xs) ∧ R (ItB K b a) H1
section
variable {X : Cx} {tg : Expr}
theorem pi_any {l : Expr} {tl : TE} (hl : PE X l tl) : PI X tg l (iAny X.K tl) := by
  refine ⟨fun pins s σ H R I h => ?_⟩
  refine thn (hl.run pins s σ H _ I h) fun v s1 ⟨x, H1, I1, r1, q1⟩ => ?_
  obtain ⟨b, a, e, ⟨xs, hq⟩, q⟩ := q1
  subst e
  cases r1
  cases b with
  | true =>
    obtain ⟨its, rv, p, hz⟩ := I1.tuple hq
    refine wpAny_pyIter_tuple (show s1.heap.IsTuple a its.toArray from p) ?_
    refine ⟨s1.heap.objs.size, [s1.heap.objs.size], _, _, H1, rfl, I1.kept (t' := s1.toks) fun b o e => Heap.get?_push_of_some _ e, turn_tuple a _, ⟨_, Heap.get?_push_size _ rfl, rfl, rfl⟩, fun b hb => ?_, q⟩
    have e : b = s1.heap.objs.size := by simpa using hb
    subst e
    exact I1.fpOk (Nat.le_refl _) (I1.hok.fresh (Nat.le_refl _))
  | false =>
    obtain ⟨its, rv, p, hz⟩ := I1.list hq
    refine wpAny_pyIter_list p.isList ?_
    refine ⟨s1.heap.objs.size, [s1.heap.objs.size], _, _, H1, rfl, I1.kept (t' := s1.toks) fun b o e => Heap.get?_push_of_some _ e, turn_list a _, ⟨_, Heap.get?_push_size _ rfl, rfl, rfl⟩, fun b hb => ?_, q⟩
    have e : b = s1.heap.objs.size := by simpa using hb
    subst e
    exact I1.fpOk (Nat.le_refl _) (I1.hok.fresh (Nat.le_refl _))
end
/-! ### enumerate of a tuple -/
theorem meets_enumerate_newT (a : Addr) (items : Array Value) :
    Meets (Builtin.«enumerate.__new__» ⟨[.type "enumerate", .ref a], []⟩) (fun _ R s => s.heap.IsTuple a items ∧
      R (.ok (.ret (.ref (s.heap.push { cls := .type "tuple_iterator", data := .fields #[.ref a, .int 0 0] }).objs.size)))
        { s with heap := (s.heap.push { cls := .type "tuple_iterator", data := .fields #[.ref a, .int 0 0] }).push { cls := .type "enumerate", data := .fields #[.none, .bool false, .ref s.heap.objs.size, rawInt 0, .none, .none] } }) :=
  .of_wp fun prog w A R s h => by
    obtain ⟨hp, g, d, tk, os⟩ := s
    obtain ⟨h1, h⟩ := h
    have hsub := sub_enumerate
    have q1 : ∀ {A' : Around} {E : Value → Shared → Prop} {Q : Value → Shared → Prop}, Q (.ref hp.objs.size) ⟨hp.push { cls := .type "tuple_iterator", data := .fields #[.ref a, .int 0 0] }, g, d, tk, os⟩ → wpAny (model prog w) A' (pyIter (.ref a)) Q E ⟨hp, g, d, tk, os⟩ :=
      fun q => (begins_tuple a items).iter prog w _ _ ⟨hp, g, d, tk, os⟩ _ h1 q
    wp_walk using q1
    refine wpAny_stack_any fun st => wpAny_pure ?_
    split
    · rename_i c _ _ _ _ _
      cases (c == Value.type "enumerate")
      · wp_walk using q1
        exact ⟨_, rfl, h⟩
      · wp_walk using q1
        exact ⟨_, rfl, h⟩
    · wp_walk using q1
      exact ⟨_, rfl, h⟩
section
variable {prog : Program} {w : World} {A : Around} {E : Value → Shared → Prop} {s : Shared}
theorem call_enumerate_tup {a : Addr} {items : Array Value} {Q : Value → Shared → Prop} (h1 : s.heap.IsTuple a items)
    (h : ∀ h', IsEnum h' (s.heap.objs.size + 1) s.heap.objs.size 0 .none → h'.get? s.heap.objs.size = some { cls := .type "tuple_iterator", data := .fields #[.ref a, .int 0 0] } → h'.objs.size = s.heap.objs.size + 2 →
      (∀ b o, s.heap.get? b = some o → h'.get? b = some o) → Q (.ref (s.heap.objs.size + 1)) { s with heap := h' }) :
    wpAny (model prog w) A (call (.type "enumerate") [.ref a]) Q E s := by
  refine callType_new F.called_enumerate (by decide) (F.typeCall_enumerate_1 _) (F.newCall_enumerate_1 _) (fun obj => F.args_object_init_2 obj _) F.entry_enumerate_new
    (meets_enumerate_newT a items) ⟨h1, ?_⟩
  have hz : (s.heap.push { cls := .type "tuple_iterator", data := .fields #[.ref a, .int 0 0] }).objs.size = s.heap.objs.size + 1 := Heap.size_push ..
  show _ ∧ _
  rw [hz]
  have he : IsEnum ((s.heap.push { cls := .type "tuple_iterator", data := .fields #[.ref a, .int 0 0] }).push { cls := .type "enumerate", data := .fields #[.none, .bool false, .ref s.heap.objs.size, rawInt 0, .none, .none] }) (s.heap.objs.size + 1) s.heap.objs.size 0 .none := by
    have := Heap.get?_push_size (s.heap.push { cls := .type "tuple_iterator", data := .fields #[.ref a, .int 0 0] }) (o := { cls := .type "enumerate", data := .fields #[.none, .bool false, .ref s.heap.objs.size, rawInt 0, .none, .none] }) rfl
    rw [hz] at this; exact this
  refine ⟨⟨_, he, rfl⟩, h _ he (Heap.get?_push_of_some _ (Heap.get?_push_size _ rfl)) (by rw [Heap.size_push, hz]) fun b o x => Heap.get?_push_of_some _ (Heap.get?_push_of_some _ x)⟩
end
def IteT (K : PySem.W.Frag) (a : Addr) : It :=
  ⟨fun i H => ∃ (xs : List V) (x : V), SqT K H a xs ∧ xs[i]? = some x, fun i H v H' => ∃ T x, v = .ref T ∧ H T = none ∧ H' = upd H T (.tup [.int (i : Nat), x]) ∧ ∀ xs, SqT K H a xs → xs[i]? = some x, fun i H => ∃ xs : List V, SqT K H a xs ∧ xs.length ≤ i⟩
theorem turn_enumT {P : Program} {w : World} {K : PySem.W.Frag} {elts : List Expr} {kk : Nat} {tpos : Pos} (a e it : Addr) :
    Turn P w K (.Tuple elts kk tpos) (IteT K a) [e, it] e (fun i h => (∃ old, IsEnum h e it ((i : Nat) : Int) old) ∧ h.IsTupleIter it a i ∧ e ≠ it) where
  mem := by simp
  obj := fun i h st b hb => by
    obtain ⟨⟨old, he⟩, ⟨o, ho, hc, hd⟩, _⟩ := st
    have e' : b = e ∨ b = it := by simpa using hb
    rcases e' with z | z
    · rw [z]; exact ⟨_, he, fun v q => nomatch q⟩
    · rw [z]; exact ⟨o, ho, fun v q => by rw [hd] at q; cases q⟩
  keep := fun i h h' st k => let ⟨⟨old, he⟩, hi, hne⟩ := st; ⟨⟨old, k e (by simp) _ he⟩, hi.at fun o q => k it (by simp) o q, hne⟩
  item := by
    intro X hP hw hK hc i pins s σ H E I hf st hg
    subst hP hw hK
    obtain ⟨⟨old, he⟩, hit, hne⟩ := st
    obtain ⟨xs, x, hq, hx⟩ := hg
    obtain ⟨its, rv, p, hz⟩ := I.tuple hq
    have p' : s.heap.IsTuple a its.toArray := p
    obtain ⟨u, hu, ru⟩ := rv.get hx
    have hu' : its.toArray[i]? = some u := by simpa using hu
    have hel : e < s.heap.objs.size := Heap.lt_size he
    have hil : it < s.heap.objs.size := by obtain ⟨_, q, _⟩ := hit; exact Heap.lt_size q
    have hne2 : a ≠ it := fun z => by
      obtain ⟨o, ho, hc', hd⟩ := hit
      obtain ⟨o2, ho2, hc2, _⟩ := p'
      rw [z, ho] at ho2
      cases ho2
      rw [hc'] at hc2
      exact absurd (Value.type.inj hc2) (by decide)
    have hea : e ≠ a := fun z => by
      obtain ⟨o2, ho2, hc2, _⟩ := p'
      have he' : s.heap.get? a = some _ := z ▸ he
      rw [he'] at ho2
      cases ho2
      exact absurd (Value.type.inj hc2) (by decide)
    have hlt : i < its.toArray.size := by
      rcases Nat.lt_or_ge i its.toArray.size with h' | h'
      · exact h'
      · rw [Array.getElem?_eq_none h'] at hu'; cases hu'
    refine wpAny_pyNext_enum_itemD (A := X.A) (Draws.tuple (prog := X.prog) (w := X.w) (A := X.A.in1) (I.ok.hd hc) it a hne2 its.toArray) he ⟨hit, p'⟩ hlt hne (by simp [hne, hea]) fun x' h' tk hP ho hst' hT hsz hk => ?_
    obtain ⟨hit', _⟩ := hst'
    have ex : x' = u := by rw [hu'] at hP; exact (Option.some.inj hP).symm
    subst ex
    refine ⟨_, rfl, wpAny_letOwnedTupleGo_enum (s := { s with heap := h', toks := tk + 1 }) ho fun h'' he' sb => ?_⟩
    have hT2 : h''.get? s.heap.objs.size = some { cls := .type "tuple", data := .seq #[.int i tk, x'] } := (sb.2 _ (Nat.ne_of_gt hel)).trans hT
    have new : ObjOk X.prog X.w (upd H s.heap.objs.size (.tup [.int (i : Nat), x])) h'' s.heap.objs.size (.tup [.int (i : Nat), x]) :=
      ⟨by show 2 ≤ sizeLine; decide, [.int i tk, x'], .cons ⟨_, rfl⟩ (.cons ru .nil), ⟨_, hT2, rfl, _, rfl⟩⟩
    have I1 : Inv X pins σ (upd H s.heap.objs.size (.tup [.int (i : Nat), x])) { s with heap := h'', toks := tk + 1 } :=
      I.turnedNew (ch := [e, it]) (fun b ob hb q => (sb.2 b (fun z => hb (by simp [z]))).trans (hk b ob (fun z => hb (by simp [z])) (fun z => hb (by simp [z])) q)) hf (Nat.le_refl _) new
    refine ⟨.ref s.heap.objs.size, _, I1, rfl, ⟨_, x, rfl, I.hok.fresh (Nat.le_refl _), rfl, fun ys hy => by rw [I.tuple_inj hy hq]; exact hx⟩, ⟨⟨x', ?_⟩, hit'.at fun o q => (sb.2 it (Ne.symm hne)).trans q, hne⟩, fun b hb => ?_⟩
    · have e1 : ((i + 1 : Nat) : Int) = (i : Int) + 1 := by omega
      rw [e1]; exact he'
    · have hb' : b < s.heap.objs.size := by
        have e' : b = e ∨ b = it := by simpa using hb
        rcases e' with z | z
        · rw [z]; exact hel
        · rw [z]; exact hil
      rw [upd_ne (Nat.ne_of_lt hb')]
      exact (hf b hb).1
  done := by
    intro X hP hw hK hc i pins s σ H E I hf st hg
    subst hP hw hK
    obtain ⟨⟨old, he⟩, hit, hne⟩ := st
    obtain ⟨xs, hq, hx⟩ := hg
    obtain ⟨its, rv, p, hz⟩ := I.tuple hq
    have p' : s.heap.IsTuple a its.toArray := p
    obtain ⟨f0, f1, f2, f3, f4, f5⟩ := hf it (by simp)
    have hl := rv.length
    have hT : s.TypeIs (.ref e) "enumerate" := ⟨_, he, rfl⟩
    unfold pyNext
    refine wpAny_bind (wpAny_attempt (wpAny_callSpecial?_slot (name := Str.ofString "__next__") hT F.slot_enumerate_next
      (wpAny_call_entry F.slot_enumerate_next hT F.entry_enumerate_next ?_ (F.args_enumerate_next_1 _))))
    show wpAny _ _ (field (.ref e) 2 >>= _) _ _ _
    refine wpAny_bind (wpAny_field he rfl (x := .ref it) rfl ?_)
    refine wpAny_bind (wpAny_nextOf_tuple_end (I.ok.hd hc) hit p' (by simp; omega) fun h' x he' hx' => ?_)
    obtain ⟨o, ho, hc'⟩ := hx'
    refine wpAny_bind (wpAny_isInstance (T := "StopIteration") (b := true) ⟨o, ho, hc'⟩ isSubtype_stop ?_)
    exact wpAny_pure ⟨rfl, I.turned (t' := s.toks) (fun b o hb q => he' b o hb q) f0 f1 f3 f4 f5⟩
  self := fun A i s Q E st h => let ⟨⟨_, he⟩, _⟩ := st; wpAny_pyIter_enum he h
def IteB (K : PySem.W.Frag) (b : Bool) (a : Addr) : It := if b = true then IteT K a else Ite K a
def iEnumA (K : PySem.W.Frag) (ta : TA) : TI := fun σ H R => ta σ H fun vs H1 => ∃ b a xs, vs = [.ref a] ∧ SqB K H1 b a xs ∧ R (IteB K b a) H1
theorem pi_enumA {X : Cx} {e : Expr} {ta : TA} {p pos tpos : Pos} {elts : List Expr} {kk : Nat} (hg : Gl X "enumerate") (hm : X.mg "enumerate" = none) (ha : PA X [e] ta) (hs : starEach [e] X.env = [(false, eval e X.env)] := by rfl) :
    PI X (.Tuple elts kk tpos) (.Call (.Name "enumerate" p) [e] [] pos) (iEnumA X.K ta) := by
  refine ⟨fun pins s σ H R I h => ?_⟩
  refine Call_ (ld_blt I hg hm boot_enumerate (PyProof.Rows.callWith_type1 (thn (ha.run pos pins s σ H _ I h) fun us s1 ⟨vs, H1, I1, r1, q1⟩ => ?_) hs rfl))
  obtain ⟨b, a, xs, ex, hq, q⟩ := q1
  subst ex
  cases r1 with
  | cons r rr =>
    cases rr
    cases r
    cases b with
    | false =>
      obtain ⟨its, rv, p', hz⟩ := I1.list hq
      refine call_enumerate_list p'.isList fun h' he hit hsz hk => wpAny_pyIter_enum he ?_
      have I2 : Inv X pins σ H1 { s1 with heap := h' } := I1.kept (t' := s1.toks) hk
      refine ⟨s1.heap.objs.size + 1, [s1.heap.objs.size + 1, s1.heap.objs.size], _, _, H1, rfl, I2, turn_enum a (s1.heap.objs.size + 1) s1.heap.objs.size, ⟨⟨.none, he⟩, hit, Nat.succ_ne_self _⟩, fun b hb => ?_, q⟩
      have e' : b = s1.heap.objs.size + 1 ∨ b = s1.heap.objs.size := by simpa using hb
      have hle : s1.heap.objs.size ≤ b := by
        rcases e' with z | z
        · rw [z]; exact Nat.le_add_right _ _
        · rw [z]; exact Nat.le_refl _
      exact I1.fpOk hle (I1.hok.fresh hle)
    | true =>
      obtain ⟨its, rv, p', hz⟩ := I1.tuple hq
      refine call_enumerate_tup (show s1.heap.IsTuple a its.toArray from p') fun h' he hit hsz hk => wpAny_pyIter_enum he ?_
      have I2 : Inv X pins σ H1 { s1 with heap := h' } := I1.kept (t' := s1.toks) hk
      refine ⟨s1.heap.objs.size + 1, [s1.heap.objs.size + 1, s1.heap.objs.size], _, _, H1, rfl, I2, turn_enumT a (s1.heap.objs.size + 1) s1.heap.objs.size, ⟨⟨.none, he⟩, ⟨_, hit, rfl, rfl⟩, Nat.succ_ne_self _⟩, fun b hb => ?_, q⟩
      have e' : b = s1.heap.objs.size + 1 ∨ b = s1.heap.objs.size := by simpa using hb
      have hle : s1.heap.objs.size ≤ b := by
        rcases e' with z | z
        · rw [z]; exact Nat.le_add_right _ _
        · rw [z]; exact Nat.le_refl _
      exact I1.fpOk hle (I1.hok.fresh hle)
theorem walk_enumT {K : PySem.W.Frag} {a : Addr} {xs : List V} : Walk (IteT K a) xs.length (fun H => SqT K H a xs) (YPair (fun i => some (.int (i : Nat))) (fun i => xs[i]?)) :=
  ⟨fun i _ hi q => ⟨xs, xs[i], q, by simp [hi]⟩, fun _ q => ⟨xs, q, Nat.le_refl _⟩, fun i H x H' _ q y => by
    obtain ⟨T, x', e1, e2, e3, e4⟩ := y
    exact ⟨T, _, x', e1, e2, e3, rfl, e4 xs q⟩⟩
theorem walk_enumB {K : PySem.W.Frag} {b : Bool} {a : Addr} {xs : List V} : Walk (IteB K b a) xs.length (fun H => SqB K H b a xs) (YPair (fun i => some (.int (i : Nat))) (fun i => xs[i]?)) := by
  cases b with
  | true => exact walk_enumT
  | false => exact walk_enum
/-! ### x[::-1] -/
section
variable {prog : Program} {w : World} {A : Around} {E : Value → Shared → Prop} {s : Shared}
theorem adjust_rev (n : Nat) : Builtin.Slice.sliceAdjust none none (-1) (n : Int) = ((n : Int) - 1, -1) := by
  unfold Builtin.Slice.sliceAdjust
  have h1 : (-1 : Int) < 0 := by omega
  simp only [h1, if_true]
theorem places_rev (n : Nat) : Builtin.Slice.slicePlaces ((n : Int) - 1) (-1) (-1) = n := by
  unfold Builtin.Slice.slicePlaces
  have h1 : ¬ ((-1 : Int) > 0) := by omega
  simp only [h1, if_false]
  have h2 : (- -1 : Int) = 1 := by decide
  try simp only [h2, Int.ediv_one]
  split <;> omega
theorem sliceApplied_rev {sl : Addr} {vl vu vs : Value} {n : Nat} {Q : Int × Int × Nat → Shared → Prop} (hs : s.heap.IsSliceOf sl vl vu vs) (pl : IsPart vl none) (pu : IsPart vu none) (ps : IsPart vs (some (-1)))
    (h : Q ((n : Int) - 1, -1, n) s) : wpAny (model prog w) A (Builtin.Slice.sliceApplied (.ref sl) (pure (n : Int))) Q E s := by
  obtain ⟨os, hos, hcs, hds⟩ := id hs
  unfold Builtin.Slice.sliceApplied Builtin.Slice.sliceFields
  refine wpAny_bind (wpAny_bind (wpAny_field hos hds (x := vl) rfl (wpAny_bind (wpAny_field hos hds (x := vu) rfl (wpAny_bind (wpAny_field hos hds (x := vs) rfl (wpAny_pure ?_)))))))
  refine wpAny_bind (HT.slicePart_ ps ?_)
  show wpAny _ _ (if ((-1 : Int) == 0) = true then _ else _) _ _ s
  rw [if_neg (by decide)]
  refine wpAny_bind (HT.slicePart_ pl (wpAny_bind (HT.slicePart_ pu (wpAny_bind (wpAny_pure ?_)))))
  show wpAny _ _ (match Builtin.Slice.sliceAdjust none none (-1) (n : Int) with | (lo, hi) => pure (lo, (-1 : Int), Builtin.Slice.slicePlaces lo hi (-1))) _ _ s
  rw [adjust_rev n]
  show wpAny _ _ (pure ((n : Int) - 1, (-1 : Int), Builtin.Slice.slicePlaces ((n : Int) - 1) (-1) (-1))) _ _ s
  rw [places_rev]
  exact wpAny_pure h
theorem pick_rev (xs : Array Value) : ((List.range xs.size).filterMap fun (k : Nat) => xs[((xs.size : Int) - 1 + (k : Int) * (-1)).toNat]?).toArray = xs.toList.reverse.toArray := by
  have e : (List.range xs.size).map (fun (k : Nat) => ((xs.size : Int) - 1 + (k : Int) * (-1)).toNat) = (List.range xs.size).reverse := by
    rw [← PySem.W.krv_range]
    apply List.map_congr_left
    intro k hk
    omega
  have e2 : ((List.range xs.size).filterMap fun (k : Nat) => xs[((xs.size : Int) - 1 + (k : Int) * (-1)).toNat]?) = ((List.range xs.size).map (fun (k : Nat) => ((xs.size : Int) - 1 + (k : Int) * (-1)).toNat)).filterMap (fun j => xs[j]?) := by
    rw [List.filterMap_map] <;> rfl
  rw [e2, e, List.filterMap_reverse, PySem.W.krv_all]
theorem getItem_tuple_rev {t sl : Addr} {items : Array Value} {vl vu vs : Value} {Q : Value → Shared → Prop} (ht : IsTup s.heap t items) (hs : s.heap.IsSliceOf sl vl vu vs) (pl : IsPart vl none) (pu : IsPart vu none) (ps : IsPart vs (some (-1)))
    (h : Q (.ref s.heap.objs.size) { s with heap := s.heap.push { cls := .type "tuple", data := .seq items.toList.reverse.toArray } })
    (hsz : items.size ≤ sizeLine) : wpAny (model prog w) A (getItem (.ref t) (.ref sl)) Q E s := by
  have htake : sizeOk (.seq items.toList.reverse.toArray) := by
    show items.toList.reverse.toArray.size ≤ sizeLine
    rw [List.size_toArray, List.length_reverse, Array.length_toList]
    omega
  obtain ⟨os, hos, hcs, hds⟩ := id hs
  have hTs : s.TypeIs (.ref sl) "slice" := ⟨os, hos, hcs⟩
  unfold getItem
  try with_reducible refine wpAny_holding ?_
  first | refine wpAny_bind (wpAny_pure ?_) | skip
  refine wpAny_bind (wpAny_sequenceKey ht.typeIs (by decide) ?_)
  refine wpAny_bind (wpAny_callSpecial?_slot (name := Str.ofString "__getitem__") ht.typeIs PyProof.Rows.slot_tuple_getitem
    (wpAny_call_entry PyProof.Rows.slot_tuple_getitem ht.typeIs PyProof.Rows.entry_tuple_getitem ?_ (PyProof.Rows.args_tuple_getitem _ _)))
  show wpAny _ _ (Builtin.Tuple.tupleItemsOf (.ref t) >>= _) _ _ s
  refine wpAny_bind (PyProof.Rows.tupleItemsOf_ ht ?_)
  refine wpAny_bind (wpAny_typeOf hTs ?_)
  rw [if_pos (by decide)]
  refine wpAny_bind (sliceApplied_rev hs pl pu ps ?_)
  have hno : ¬ ((((items.size : Int) - 1) == 0 && (-1 : Int) == 1 && items.size == items.size) = true) := by
    intro q
    rw [Bool.and_eq_true, Bool.and_eq_true] at q
    exact absurd q.1.2 (by decide)
  show wpAny _ _ (if (((items.size : Int) - 1) == 0 && (-1 : Int) == 1 && items.size == items.size) = true then _ else _) _ _ s
  rw [if_neg hno, pick_rev]
  first
    | exact wpAny_bind (m := Builtin.Tuple.tupleExact _) (wpAny_newObj_type (wpAny_pure ⟨_, rfl, wpAny_pure h⟩) htake)
    | exact wpAny_bind (m := Builtin.Tuple.tupleExact _) (wpAny_newObj_type (wpAny_bind (wpAny_pure (wpAny_pure ⟨_, rfl, wpAny_pure h⟩))) htake)
    | exact wpAny_bind (wpAny_bind (m := Builtin.Tuple.tupleExact _) (wpAny_newObj_type (wpAny_pure (wpAny_pure ⟨_, rfl, wpAny_pure h⟩)) htake))
    | exact wpAny_bind (wpAny_bind (m := Builtin.Tuple.tupleExact _) (wpAny_newObj_type (wpAny_pure ⟨_, rfl, wpAny_pure h⟩) htake))
end
def tRevA (K : PySem.W.Frag) (te : TE) : TE := fun σ H Q => te σ H fun x H1 => ∃ b a xs, x = .ref a ∧ SqB K H1 b a xs ∧ ∀ p, H1 p = none → Q (.ref p) (upd H1 p (if b = true then .tup xs.reverse else .lst xs.reverse))
theorem pe_revA {X : Cx} {e : Expr} {te : TE} {k : Nat} {p1 p2 p3 pos : Pos} (he : PE X e te) : PE X (.Subscript e (.Slice none none (some (.UnaryOp .USub (.Constant (.int 1) k p1) p2)) p3) pos) (tRevA X.K te) := by
  refine ⟨fun pins s σ H Q I h => ?_⟩
  refine Subscript_ (thn (he.run pins s σ H _ I h) fun v s1 ⟨x, H1, I1, r1, q1⟩ => ?_)
  obtain ⟨b, a, xs, ex, hx, q⟩ := q1
  subst ex
  cases r1
  have hst : PO X (some (.UnaryOp .USub (.Constant (.int 1) k p1) p2)) (tPart (tUn (rU fun i => .int (-i)) (tC (.int 1)))) := po_some (pe_un un_neg pe_int)
  refine wpAny_Slice (thn (po_none.run pins s1 σ H1 (fun o H2 => o = none ∧ H2 = H1) I1 ⟨rfl, rfl⟩) fun vl s2 ⟨l, H2, I2, pl, el, e2⟩ => ?_)
  subst el e2
  refine thn (po_none.run pins s2 σ H2 (fun o H3 => o = none ∧ H3 = H2) I2 ⟨rfl, rfl⟩) fun vu s3 ⟨u, H3, I3, pu, eu, e3⟩ => ?_
  subst eu e3
  refine thn (hst.run pins s3 σ H3 (fun o H4 => o = some (-1) ∧ H4 = H3) I3 ⟨1, rfl, -1, rfl, rfl, rfl⟩) fun vs s4 ⟨o, H4, I4, ps, eo, e4⟩ => ?_
  subst eo e4
  have I5 : Inv X pins σ H4 { s4 with heap := s4.heap.push { cls := .type "slice", data := .fields #[vl, vu, vs] } } := I4.kept (t' := s4.toks) fun b ob q => Heap.get?_push_of_some _ q
  show wpAny (model X.prog X.w) X.A (subscriptTail e (.Slice none none (some (.UnaryOp .USub (.Constant (.int 1) k p1) p2)) p3) (.ref a) (.ref s4.heap.objs.size)) (EP X pins σ Q) X.xe { s4 with heap := s4.heap.push { cls := .type "slice", data := .fields #[vl, vu, vs] } }
  cases b with
  | false =>
    obtain ⟨its, r, ht, hz⟩ := I5.list hx
    have hlen := r.length
    refine tail_any (ops := [.ref a, .ref s4.heap.objs.size]) ht.isList.typeIs (PySem.slot_list_getitem.lookup) ?_ (by with_unfolding_all rfl)
    refine wpAny_getItem_list_slice ht.isList (Heap.IsSliceOf.new _ vl vu vs) pl pu ps (by decide) ?_ (by rw [List.size_toArray]; omega)
    rw [PySem.W.krv_pick]
    refine ⟨.ref _, _, I5.laid (t' := s4.toks) (o := .lst xs.reverse) (fun b ob q => Heap.get?_push_of_some _ q) (Nat.le_refl _) ?_, rfl, q _ (I5.hok.fresh (Nat.le_refl _))⟩
    exact ⟨by rw [List.length_reverse]; exact hz, _, 0, r.reverse, Heap.get?_push_size _ rfl⟩
  | true =>
    obtain ⟨its, r, ht, hz⟩ := I5.tuple hx
    have hlen := r.length
    refine tail_any (ops := [.ref a, .ref s4.heap.objs.size]) ht.typeIs (PyProof.Rows.slot_tuple_getitem.lookup) ?_ (by with_unfolding_all rfl)
    refine getItem_tuple_rev ht (Heap.IsSliceOf.new _ vl vu vs) pl pu ps ?_ (by rw [List.size_toArray]; omega)
    refine ⟨.ref _, _, I5.laid (t' := s4.toks) (o := .tup xs.reverse) (fun b ob q => Heap.get?_push_of_some _ q) (Nat.le_refl _) ?_, rfl, q _ (I5.hok.fresh (Nat.le_refl _))⟩
    exact ⟨by rw [List.length_reverse]; exact hz, its.reverse, r.reverse, IsTup.new _ _⟩
end TC
set_option maxHeartbeats 2000000
/-! == and != by an own __eq__, either answer; != of tuples whose items are equal. -/
namespace TC
open PySem PySem.Spec PyProof.Rows L2
/-- a class with __eq__ of its own and object's __ne__ -/
structure EqC (K : PySem.W.Frag) (C f : Addr) : Prop where
  cl : Cls K C
  mro : PySem.W.mroIn K C (.type "object") = some true
  eq : PySem.W.findIn K (.ref C) "__eq__" = some (some (.ref f))
  ne : PySem.W.findIn K (.ref C) "__ne__" = some (some (.builtin "object.__ne__"))
  isf : PySem.W.isFn K (.ref f) = true
section
variable {M : Model} {prog : Program} {w : World} {A : Around} {E : Value → Shared → Prop} {s : Shared} {K : PySem.W.Frag} {x C f L : Addr} {ox : Obj} {od : Option Obj} {b tb : Value} {h₀ : Heap} {m : Str → Option Value}
theorem ifBound_objNe {args : List Value} {Q : Option Value → Shared → Prop} (X : K.In s.heap) (I : PySem.W.InstAt s.heap x ox C od) (hs : PySem.W.findIn K (.ref C) "__ne__" = some (some (.builtin "object.__ne__")))
    (h : wpAny M A (call (.builtin "object.__ne__") (.ref x :: args)) (fun v => Q (some v)) E s) : wpAny M A (callSpecialIfBound? (.ref x) "__ne__" args) Q E s := by
  simp only [callSpecialIfBound?, bindSpecialIfBound?]
  refine wpAny_holding (wpAny_bind (wpAny_bind (wpAny_bind (I.type.here ((PySem.W.looks_findIn X hs).here ?_)))))
  refine wpAny_bind (wpAny_askSetting (wpAny_ite ?_))
  have fin : wpAny M A (call (.builtin "object.__ne__") ([.ref x] ++ args) >>= fun v => pure (some v)) Q E s := wpAny_bind (wpAny_mono h (fun v s' h' => wpAny_pure h') fun _ _ h' => h')
  split
  · exact wpAny_bind (wpAny_of_eq (F.cmp_object.ne.bind _) (wpAny_pure (by exact fin)))
  · exact wpAny_tryCatch (wpAny_bind (wpAny_of_eq (F.cmp_object.ne.bind _) (wpAny_pure (by exact fin))))
theorem objNe_own {Q : Fin → Shared → Prop} (hu : A.units < cLine) (X : K.In s.heap) (I : PySem.W.InstAt s.heap x ox C od) (T : EqC K C f)
    (hcall : wpAny (model prog w) A (call (.ref f) [.ref x, b]) (fun v s' => ∃ r, v = .bool r ∧ Q (.done (.ret (.bool (!r)))) s') E s) : wpAny (model prog w) A (Builtin.«object.__ne__» ⟨[.ref x, b], []⟩) Q E s := by
  unfold Builtin.«object.__ne__»
  repeat (first
    | with_reducible refine wpAny_cRoomFor hu ?_
    | (refine wpAny_bind (m := callSpecialIfBound? (.ref x) (Str.ofString "__eq__") [b])
        (PySem.W.ifBound_K X I T.eq T.isf (wpAny_mono hcall (fun r s' hr => by
          obtain ⟨b, rfl, hq⟩ := hr
          repeat (first | exact hq | exact wpAny_pure hq | exact wpAny_truthy_bool hq | (refine wpAny_bind (m := truthy (.bool _)) (wpAny_truthy_bool ?_)) | wp_step)) fun _ _ e => e)))
    | wp_step)
theorem ne_K {Q : Value → Shared → Prop} (hu : A.units + 1 < cLine) (X : K.In s.heap) (I : PySem.W.InstAt s.heap x ox C od) (T : EqC K C f) (hb : PySem.W.Looks (model prog w) s.heap (typeOf b) tb) (hn : PySem.W.notFirst K C tb = true)
    (h : wpAny (model prog w) A.in1 (call (.ref f) [.ref x, b]) (fun v s' => ∃ r, v = .bool r ∧ Q (.bool (!r)) s') E s) : wpAny (model prog w) A (richCompare .NotEq (.ref x) b) Q E s := by
  have one : wpAny (model prog w) A (tryCompare (.ref x) "__ne__" b) (fun r s' => ∃ v, r = some v ∧ Q v s') E s := by
    unfold tryCompare
    refine wpAny_bind (ifBound_objNe X I T.ne (wpAny_call (codeAny_call_builtin F.cmp_object.ne.plain F.cmpEntry_ne (PySem.W.check_slot F.cmpKind_ne F.cmpSplit_ne (I.type.andThen (PySem.W.looks_mroIn X T.mro)) (F.cmpArgs_ne _ _) (objNe_own (A := A.in1) hu X I T (wpAny_mono h (fun v s' hv => ?_) fun _ _ e => e))))))
    obtain ⟨r, rfl, hq⟩ := hv
    first
      | exact ⟨r, rfl, wpAny_pure ⟨_, rfl, hq⟩⟩
      | exact ⟨r, rfl, ⟨_, rfl, hq⟩⟩
      | exact ⟨r, rfl, wpAny_pure (wpAny_pure ⟨_, rfl, hq⟩)⟩
  unfold richCompare
  simp only [oneThing_ref]
  refine wpAny_holding (wpAny_bind (wpAny_cRoomFor (Nat.lt_of_succ_lt hu) ?_))
  rw [cmpInfo_NotEq]
  dsimp only
  refine wpAny_bind (I.type.here (wpAny_bind (hb.here ?_)))
  split
  · rename_i q
    have e : PySem.W.subIn K tb (.ref C) = some false := by
      rcases Bool.or_eq_true_iff.mp hn with e | e
      · rw [beq_iff_eq.mp e] at q; simp at q
      · exact beq_iff_eq.mp e
    refine wpAny_bind ((PySem.W.looks_subIn X e).here ?_)
    simp only [Bool.false_eq_true, if_false]
    refine wpAny_bind (wpAny_mono one (fun r s' z => ?_) fun _ _ e => e)
    obtain ⟨v, rfl, hq⟩ := z
    exact wpAny_pure hq
  · refine wpAny_bind (wpAny_pure ?_)
    simp only [Bool.false_eq_true, if_false]
    refine wpAny_bind (wpAny_mono one (fun r s' z => ?_) fun _ _ e => e)
    obtain ⟨v, rfl, hq⟩ := z
    exact wpAny_pure hq
end
section
variable {X : Cx} {CX : CXT} {n : Nat} {C f : Addr} {fd : FuncData} {ps : List Str} {sp : Sp} {E : XK}
/-- x == y, x != y by x's own __eq__ (of a class told at f); y any instance -/
def rOwn (K : PySem.W.Frag) (C : Addr) (sp : Sp) (E : XK) (neg : Bool) : R2 := fun x y H Q => ∃ a b dx dy D fs gs, x = .ref a ∧ y = .ref b ∧ H a = some (.ins C dx fs) ∧ H b = some (.ins D dy gs) ∧ Cls K D ∧ PySem.W.notFirst K C (.ref D) = true ∧
  sp [x, y] H (fun v H' => ∃ r, v = .bl r ∧ Q (.bl (if neg = true then !r else r)) H') E
theorem op_eqOwn (F : FnOk X.prog X.w X.K X.mg X.base CX n f fd ps sp) (T : EqC X.K C f) (hr : Room n X.A) (hb : Binds X.K fd ps []) (hx : Passes CX X E) : OpR X (compareOp .Eq) (rOwn X.K C sp E false) := by
  intro pins s σ H x y v u Q I rx ry h
  obtain ⟨a, b, dx, dy, D, fs, gs, rfl, rfl, ha, hb', cD, hn, hsp⟩ := h
  cases rx
  cases ry
  obtain ⟨mA, J, _⟩ := ins_get I.hok ha
  obtain ⟨mB, J', _⟩ := ins_get I.hok hb'
  obtain ⟨od, J, _⟩ := J.look
  obtain ⟨od', J', _⟩ := J'.look
  obtain ⟨m, hF⟩ := I.fr
  show wpAny (model X.prog X.w) X.A (richCompare .Eq _ _) (EP X pins σ Q) X.xe s
  refine PySem.W.cmp_K (op := .Eq) (tb := .ref D) hr.units0 hF I.ok.mod.kin J J'.type hn T.eq T.isf ?_
  have hl := F.len _ _ _ _ hsp
  have r2 : Vals [V.ref a, V.ref b] [Value.ref a, Value.ref b] := .cons rfl (.cons rfl .nil)
  refine wpAny_call (codeAny_mono (F.run X.A X.stack s H ⟨[.ref a, .ref b], []⟩ [.ref a, .ref b] [.ref a, .ref b] _ E hr I.env0 (by
    have := hb s [.ref a, .ref b] I.kIn (by simpa using hl)
    simpa using this) r2 hsp) fun r s' hq => ?_)
  cases r with
  | error e => exact hx pins σ H s e s' I hq
  | ok fl =>
    cases fl with
    | ret w =>
      obtain ⟨z, H', I', rz, r, ez, q⟩ := I.after hq
      subst ez
      cases rz
      exact ⟨.bl r, H', I', rfl, q⟩
    | next => exact False.elim hq
    | brk => exact False.elim hq
    | cont => exact False.elim hq
theorem op_neOwn (F : FnOk X.prog X.w X.K X.mg X.base CX n f fd ps sp) (T : EqC X.K C f) (hr : Room (n + 1) X.A) (hb : Binds X.K fd ps []) (hx : Passes CX X E) : OpR X (compareOp .NotEq) (rOwn X.K C sp E true) := by
  intro pins s σ H x y v u Q I rx ry h
  obtain ⟨a, b, dx, dy, D, fs, gs, rfl, rfl, ha, hb', cD, hn, hsp⟩ := h
  cases rx
  cases ry
  obtain ⟨mA, J, _⟩ := ins_get I.hok ha
  obtain ⟨mB, J', _⟩ := ins_get I.hok hb'
  obtain ⟨od, J, _⟩ := J.look
  obtain ⟨od', J', _⟩ := J'.look
  show wpAny (model X.prog X.w) X.A (richCompare .NotEq _ _) (EP X pins σ Q) X.xe s
  refine ne_K hr.in1.units0 I.kIn J T J'.type hn ?_
  have hl := F.len _ _ _ _ hsp
  have r2 : Vals [V.ref a, V.ref b] [Value.ref a, Value.ref b] := .cons rfl (.cons rfl .nil)
  have e0 : Env0 X.prog X.w X.K X.mg X.base X.A.in1 X.stack s H := by
    have e := I.env0
    exact ⟨e.frames, e.mod, e.bs, e.bsz, e.funs, e.frf, e.hok, e.bare⟩
  refine wpAny_call (codeAny_mono (F.run X.A.in1 X.stack s H ⟨[.ref a, .ref b], []⟩ [.ref a, .ref b] [.ref a, .ref b] _ E hr.in1 e0 (by
    have := hb s [.ref a, .ref b] I.kIn (by simpa using hl)
    simpa using this) r2 hsp) fun r s' hq => ?_)
  cases r with
  | error e => exact hx pins σ H s e s' I hq
  | ok fl =>
    cases fl with
    | ret w =>
      obtain ⟨z, H', I', rz, r, ez, q⟩ := I.after hq
      subst ez
      cases rz
      exact ⟨r, rfl, .bl (!r), H', I', rfl, q⟩
    | next => exact False.elim hq
    | brk => exact False.elim hq
    | cont => exact False.elim hq
end
/-! ### != of two tuples whose items are all equal -/
section
variable {prog : Program} {w : World} {A : Around} {R : Result → Shared → Prop}
theorem tuple_neG (l b : Addr) (items items2 : Array Value) (n n2 : Nat) (dd dd2 : Option Addr) (sl sl2 : Array (Option Value)) (hsz : items.size = items2.size) (I : Nat → Shared → Prop)
    (turn : ∀ i (h1 : i < items.size) (h2 : i < items2.size) s, I i s → wpAny (model prog w) A.in1 (eqBool items[i] items2[i]) (fun r s' => r = true ∧ I (i + 1) s') (fun e s' => R (.error e) s') s)
    (fin : ∀ s, I items.size s → R (.ok (.ret (.bool false))) s) {s : Shared} (hl1 : s.heap.get? l = some { cls := .type "tuple", dict := dd, data := .seq items n, slots := sl }) (hb1 : s.heap.get? b = some { cls := .type "tuple", dict := dd2, data := .seq items2 n2, slots := sl2 }) (h : I 0 s) :
    wpAny (model prog w) A.in1 (Builtin.«tuple.__ne__» ⟨[.ref l, .ref b], []⟩) (GQ.FinOf prog w A R) (fun e s' => R (.error e) s') s := by
  have f2 := AutoSeq1.sub_tuple_tuple
  have hZ : (items.toList.zip items2.toList).length = items.size := by simp [hsz]
  have h0 := h
  obtain ⟨hp, g, d, tk, os⟩ := s
  wp_walk using AutoSeq1.wpAny_loadPart' hl1, AutoSeq1.wpAny_loadPart' hb1, wpAny_forIn_list _ (fun rest b s' => b.1 = none ∧ ∃ i, rest = (items.toList.zip items2.toList).drop i ∧ i ≤ items.size ∧ I i s') _
  case turn =>
    rintro ⟨y, x⟩ rest b s' ⟨hb', i, hz, hi, hI⟩
    have hlt : i < (items.toList.zip items2.toList).length := by
      rcases Nat.lt_or_ge i (items.toList.zip items2.toList).length with h' | h'
      · exact h'
      · rw [List.drop_of_length_le h'] at hz; cases hz
    have h1 : i < items.size := hZ ▸ hlt
    have h2 : i < items2.size := hsz ▸ h1
    rw [List.drop_eq_getElem_cons hlt] at hz
    injection hz with hyx hrest
    have hy : y = items[i] := by have := congrArg Prod.fst hyx; simpa using this
    have hx : x = items2[i] := by have := congrArg Prod.snd hyx; simpa using this
    subst hy hx
    refine wpAny_bind (wpAny_mono (turn i h1 h2 s' hI) (fun r s2 q2 => ?_) fun _ _ x => x)
    obtain ⟨hr, q2⟩ := q2
    subst hr
    wp_walk
    exact ⟨rfl, i + 1, hrest, h1, q2⟩
  case fin =>
    rintro ⟨b1, b2⟩ s' ⟨hb', i, hz, hi, hI⟩
    simp only at hb'
    subst hb'
    have hge : items.size ≤ i := by
      rcases Nat.lt_or_ge i (items.toList.zip items2.toList).length with h' | h'
      · rw [List.drop_eq_getElem_cons h'] at hz; cases hz
      · exact hZ ▸ h'
    have hi' : i = items.size := by omega
    have hR : R (.ok (.ret (.bool false))) s' := fin s' (hi' ▸ hI)
    wp_walk
    simpa [Builtin.Tuple.tupleCompareSizes, hsz] using hR
  case h =>
    exact ⟨rfl, 0, rfl, Nat.zero_le _, h0⟩
theorem rc_tupNeG {E : Value → Shared → Prop} {s : Shared} {l b : Addr} {items items2 : Array Value} {Q : Value → Shared → Prop} (hsz : items.size = items2.size) (hu : A.units < cLine) (I : Nat → Shared → Prop)
    (hl : s.heap.IsTuple l items) (hb : s.heap.IsTuple b items2)
    (turn : ∀ i (h1 : i < items.size) (h2 : i < items2.size) s, I i s → wpAny (model prog w) A.in1 (eqBool items[i] items2[i]) (fun r s' => r = true ∧ I (i + 1) s') E s)
    (fin : ∀ s, I items.size s → Q (.bool false) s) (h : I 0 s) : wpAny (model prog w) A (richCompare .NotEq (.ref l) (.ref b)) Q E s := by
  obtain ⟨⟨cls, dd, data, sl⟩, ho, hc, n, hd⟩ := id hl
  obtain ⟨⟨cls2, dd2, data2, sl2⟩, ho2, hc2, n2, hd2⟩ := id hb
  simp only at hc hd hc2 hd2
  subst hc hd hc2 hd2
  refine wpAny_richCompare_same_room (op := .NotEq) ⟨_, ho, rfl⟩ ⟨_, ho2, rfl⟩ F.slot_tuple_ne (GQ.call_here F.slot_tuple_ne ⟨_, ho, rfl⟩ F.entry_tuple_ne (F.args_tuple_ne_2 _ _) ?_) hu
  exact tuple_neG (R := wants (fun v s' => v ≠ .notImplemented ∧ Q v s') E) l b items items2 n n2 dd dd2 sl sl2 hsz I turn (fun s' q => ⟨(fun x => nomatch x), fin s' q⟩) ho ho2 h
end
section
variable {X : Cx} {n : Nat} {D : Eqv}
def rNeT (K : PySem.W.Frag) (D : Eqv) : R2 := fun x y H Q => DTup K D x y H ∧ ∀ H', L2.Ext H H' → Q (.bl false) H'
theorem op_neT (hD : Mon D) (h : EqG X n D) (hr : Room (n + 1) X.A) : OpR X (compareOp .NotEq) (rNeT X.K D) := by
  intro pins s σ H x y v u Q I rx ry hq
  obtain ⟨⟨a, b, xs, ys, rfl, rfl, ha, hb, p⟩, q⟩ := hq
  cases rx
  cases ry
  have sb : Sub X (n + 1) X.A := ⟨hr, rfl⟩
  obtain ⟨its, r, e, z⟩ := I.tuple ha
  obtain ⟨its2, r2, e2, z2⟩ := I.tuple hb
  have hsz : its.toArray.size = its2.toArray.size := by rw [List.size_toArray, List.size_toArray, ← r.length, ← r2.length]; exact p.1
  show wpAny (model X.prog X.w) X.A (richCompare .NotEq _ _) (EP X pins σ Q) X.xe s
  refine rc_tupNeG hsz sb.room.units0 (fun _ s' => LoopI X pins σ H s') e e2 (fun i h1 h2 s' q => turnG hD h sb p r r2 i h1 h2 s' q) (fun s' z => ?_) ⟨H, I, L2.Ext.rfl'⟩
  obtain ⟨H', I', e'⟩ := z
  exact ⟨.bl false, H', I', rfl, q H' e'⟩
end
/-- a promise told weaker -/
theorem FnOk.imp {P : Program} {w : World} {K : PySem.W.Frag} {mg : Str → Option Value} {base : Heap} {CX : CXT} {k : Nat} {f : Addr} {fd : FuncData} {ps : List Str} {sp sp' : Sp} (F : FnOk P w K mg base CX k f fd ps sp) (h : ∀ vs H Q E, sp' vs H Q E → sp vs H Q E) : FnOk P w K mg base CX k f fd ps sp' :=
  ⟨fun vs H Q E q => F.len vs H Q E (h vs H Q E q), fun A outer s H args us vs Q E hr e hb r q => F.run A outer s H args us vs Q E hr e hb r (h vs H Q E q)⟩
end TC
set_option maxHeartbeats 2000000
/-! Data in the abstract heap; readings of common words (Ev style); defs by name. -/
namespace TC
open PySem PySem.Spec PyProof.Rows L2 Evl
section
variable {K : PySem.W.Frag} {H H' : Hp}
mutual
theorem Dp.ex (e : Ex H H') : ∀ {d : PyData} {v : V}, Dp K H v d → Dp K H' v d
  | _, _, .non => .non
  | _, _, .bl b => .bl b
  | _, _, .int i => .int i
  | _, _, .str x => .str x
  | _, _, .lst h a => .lst (ex_l e h) (DpAll.ex e a)
  | _, _, .tup h a => .tup (ex_t e h) (DpAll.ex e a)
theorem DpAll.ex (e : Ex H H') : ∀ {ds : List PyData} {vs : List V}, DpAll K H vs ds → DpAll K H' vs ds
  | _, _, .nil => .nil
  | _, _, .cons h a => .cons (Dp.ex e h) (DpAll.ex e a)
end
theorem DpAll.length {vs : List V} : ∀ {ds : List PyData}, DpAll K H vs ds → vs.length = ds.length := by
  induction vs with
  | nil => intro ds h; cases h; rfl
  | cons v vs ih => intro ds h; cases h with | cons a b => rw [List.length_cons, List.length_cons, ih b]
theorem DpAll.get {vs : List V} : ∀ {ds : List PyData}, DpAll K H vs ds → ∀ {i : Nat} {v : V}, vs[i]? = some v → ∃ d, ds[i]? = some d ∧ Dp K H v d := by
  induction vs with
  | nil => intro ds h i v e; simp at e
  | cons v vs ih =>
    intro ds h i w e
    cases h with
    | cons a b =>
      cases i with
      | zero => simp at e; subst e; exact ⟨_, rfl, a⟩
      | succ i => simp at e; obtain ⟨d, h1, h2⟩ := ih b e; exact ⟨d, by simpa using h1, h2⟩
theorem DpAll.ints {ns : List Int} : DpAll K H (ns.map V.int) (ns.map PyData.int) := by
  induction ns with
  | nil => exact .nil
  | cons n ns ih => exact .cons (.int n) ih
theorem DpAll.ints_inv {ns : List Int} : ∀ {vs : List V}, DpAll K H vs (ns.map PyData.int) → vs = ns.map V.int := by
  induction ns with
  | nil => intro vs h; cases h; rfl
  | cons n ns ih =>
    intro vs h
    cases h with
    | cons a b => cases a; rw [ih b]; rfl
theorem DpAll.snoc {vs : List V} {ds : List PyData} {v : V} {d : PyData} (h : DpAll K H vs ds) (h2 : Dp K H v d) : DpAll K H (vs ++ [v]) (ds ++ [d]) := by
  induction vs generalizing ds with
  | nil => cases h; exact .cons h2 .nil
  | cons w vs ih => cases h with | cons a b => exact .cons a (ih b)
theorem DpAll.append {vs ws : List V} {ds es : List PyData} (h : DpAll K H vs ds) (h2 : DpAll K H ws es) : DpAll K H (vs ++ ws) (ds ++ es) := by
  induction vs generalizing ds with
  | nil => cases h; exact h2
  | cons w vs ih => cases h with | cons a b => exact .cons a (ih b)
theorem DpAll.set {vs : List V} {ds : List PyData} {v : V} {d : PyData} {i : Nat} (h : DpAll K H vs ds) (h2 : Dp K H v d) : DpAll K H (vs.set i v) (ds.set i d) := by
  induction vs generalizing ds i with
  | nil => cases h; exact .nil
  | cons w vs ih =>
    cases h with
    | cons a b =>
      cases i with
      | zero => exact .cons h2 b
      | succ i => exact .cons a (ih b)
theorem DpAll.take {vs : List V} {ds : List PyData} {n : Nat} (h : DpAll K H vs ds) : DpAll K H (vs.take n) (ds.take n) := by
  induction vs generalizing ds n with
  | nil => cases h; simp; exact .nil
  | cons w vs ih =>
    cases h with
    | cons a b =>
      cases n with
      | zero => exact .nil
      | succ n => exact .cons a (ih b)
theorem DpAll.rev {vs : List V} {ds : List PyData} (h : DpAll K H vs ds) : DpAll K H vs.reverse ds.reverse := by
  induction vs generalizing ds with
  | nil => cases h; exact .nil
  | cons w vs ih => cases h with | cons a b => rw [List.reverse_cons, List.reverse_cons]; exact DpAll.snoc (ih b) a
/-- a list (false), a tuple (true) -/
def seqD (b : Bool) (ds : List PyData) : PyData := if b = true then .tuple ds else .list ds
theorem Dp.seq {b : Bool} {a : Addr} {vs : List V} {ds : List PyData} (h : SqB K H b a vs) (x : DpAll K H vs ds) : Dp K H (.ref a) (seqD b ds) := by
  cases b with
  | true => exact .tup h x
  | false => exact .lst h x
theorem Dp.seq_inv {b : Bool} {v : V} {ds : List PyData} (h : Dp K H v (seqD b ds)) : ∃ a vs, v = .ref a ∧ SqB K H b a vs ∧ DpAll K H vs ds := by
  cases b with
  | true => cases h with | tup h x => exact ⟨_, _, rfl, h, x⟩
  | false => cases h with | lst h x => exact ⟨_, _, rfl, h, x⟩
/-! ### types -/
def tyOf : PyData → String
  | .none => "NoneType"
  | .bool _ => "bool"
  | .int _ => "int"
  | .str _ => "str"
  | .list _ => "list"
  | .tuple _ => "tuple"
  | .dict _ => "dict"
theorem TyX.ex {x : V} {t : Value} (e : Ex H H') (h : TyX K H x t) : TyX K H' x t := by
  cases h with
  | base b =>
    cases b with
    | non => exact .base .non
    | bl y => exact .base (.bl y)
    | int i => exact .base (.int i)
    | str y => exact .base (.str y)
    | flt y => exact .base (.flt y)
    | lst ea => exact .base (.lst (e _ _ ea))
    | frz ea => exact .base (.frz (e _ _ ea))
    | tup ea => exact .base (.tup (e _ _ ea))
    | dK ea => exact .base (.dK (e _ _ ea))
    | dT ea => exact .base (.dT (e _ _ ea))
    | ins ea cl ha hn htk hm => exact .base (.ins (e _ _ ea) cl ha hn htk hm)
  | byt b => exact .byt b
  | set ea => exact .set (e _ _ ea)
  | kList a b => exact .kList a b
  | kTuple a b => exact .kTuple a b
  | kDict a b => exact .kDict a b
  | fTuple ea => exact .fTuple (e _ _ ea)
  | fDict ea => exact .fDict (e _ _ ea)
theorem TyX.l {a : Addr} {xs : List V} (h : SqL K H a xs) : TyX K H (.ref a) (.type "list") := by
  rcases h with (h | ⟨o, h⟩) | ⟨o, its, n, h, c, _⟩
  · exact .base (.lst h)
  · exact .base (.frz h)
  · exact .kList h c
theorem TyX.t {a : Addr} {xs : List V} (h : SqT K H a xs) : TyX K H (.ref a) (.type "tuple") := by
  rcases h with (h | ⟨o, h⟩) | ⟨o, its, n, h, c, _⟩
  · exact .base (.tup h)
  · exact .fTuple h
  · exact .kTuple h c
theorem Dp.tyX {v : V} {d : PyData} (h : Dp K H v d) : TyX K H v (.type (tyOf d)) := by
  cases h with
  | non => exact .base .non
  | bl b => exact .base (.bl b)
  | int i => exact .base (.int i)
  | str x => exact .base (.str x)
  | lst h _ => exact TyX.l h
  | tup h _ => exact TyX.t h
end
/-! ### readings -/
section
variable {K : PySem.W.Frag} {σ : L2.St} {H H' : Hp} {ta tb te tx tl : TE} {t u : TT} {x y z v : V} {D : Ends} {tu tw tz : TS} {g : TG}
theorem ev_isi {c : V} {tt uu : Value} {b : Bool} (h : Ev ta σ H x) (hc : ClsV c uu) (ty : TyX K H x tt) (hk : PySem.W.kitOne K tt uu = some b) : Ev (tCB (rIsi K) (tCons ta (tCons (tC c) tNil))) σ H (.bl b) := fun H1 e Q q =>
  h H1 e _ fun H2 e2 => ⟨x, c, tt, uu, b, rfl, hc, TyX.ex (e.trans e2) ty, hk, q H2 e2⟩
/-- isinstance(x, (c1, c2)) -/
theorem ev_isiT {c1 c2 : V} {tt u1 u2 : Value} {b : Bool} (h : Ev ta σ H x) (h1 : ClsV c1 u1) (h2 : ClsV c2 u2) (ty : TyX K H x tt) (hk : PySem.W.kitAny K tt [u1, u2] = some b) :
    Ev (tCB (rIsiT K) (tCons ta (tCons (tTup (tCons (tC c1) (tCons (tC c2) tNil))) tNil))) σ H (.bl b) := fun H1 e Q q =>
  h H1 e _ fun H2 e2 => ⟨by show 2 ≤ sizeLine; decide, fun p hp => ⟨x, p, [c1, c2], tt, [u1, u2], b, rfl, upd_same, .cons h1 (.cons h2 .nil), TyX.ex ((e.trans e2).trans (Ex.new hp)) ty, hk, q _ (e2.trans (Ex.new hp))⟩⟩
def rLenA (K : PySem.W.Frag) : List V → Hp → VK → Prop := fun xs H Q => ∃ p ys, xs = [.ref p] ∧ (SqL K H p ys ∨ SqT K H p ys) ∧ Q (.int ys.length) H
theorem ev_lenA {b : Bool} {p : Addr} {xs : List V} (h : Ev ta σ H (.ref p)) (hx : SqB K H b p xs) : Ev (tCB (rLenA K) (tCons ta tNil)) σ H (.int (xs.length : Int)) := fun H1 e Q q =>
  h H1 e _ fun H2 e2 => ⟨p, xs, rfl, (hx.ex (e.trans e2)).or, q H2 e2⟩
def rIxA (K : PySem.W.Frag) : R2 := fun x y H Q => rIxL K x y H Q ∨ rIxT K x y H Q ∨ rIxS x y H Q
theorem rv_ixA {b : Bool} {p : Addr} {xs : List V} {i : Int} (h : SqB K H b p xs) (ha : atI xs i = some v) : RV (rIxA K) (.ref p) (.int i) H v := fun H1 e _ q => by
  cases b with
  | true => exact .inr (.inl ⟨p, xs, i, v, rfl, rfl, ex_t e h, ha, q H1 (Ex.refl H1)⟩)
  | false => exact .inl ⟨p, xs, i, v, rfl, rfl, ex_l e h, ha, q H1 (Ex.refl H1)⟩
theorem ev_ixA {b : Bool} {p : Addr} {xs : List V} {i : Int} (ha : Ev ta σ H (.ref p)) (hb : Ev tb σ H (.int i)) (h : SqB K H b p xs) (hv : atI xs i = some v) : Ev (tOp (rIxA K) ta tb) σ H v := ev_op ha hb (rv_ixA h hv)
theorem s_forA {b : Bool} {a : Addr} {xs : List V} (h : Ev tl σ H (.ref a)) (hx : SqB K H b a xs) (Pv : Nat → L2.St → Hp → Prop) (h0 : ∀ H1, Ex H H1 → Pv 0 σ H1) (hl : ∀ i σ' H', i ≤ xs.length → Pv i σ' H' → SqB K H' b a xs)
    (hs : ∀ i x σ' H', xs[i]? = some x → Pv i σ' H' → g x σ' H' fun σ2 H2 => tu { D with nx := Pv (i + 1), ct := Pv (i + 1), bk := D.nx } σ2 H2) (hd : ∀ σ' H', Pv xs.length σ' H' → D.nx σ' H') : tFor (iAny K tl) g tu D σ H :=
  h H (Ex.refl H) _ fun H1 e => ⟨b, a, rfl, ⟨xs, hx.ex e⟩, for_it walk_B Pv (h0 H1 e) hl (fun i x σ' H' H'' _ p y => by obtain ⟨rfl, y2⟩ := y; exact hs i x σ' H'' y2 p) hd⟩
theorem q_forA {b : Bool} {a : Addr} {xs : List V} (h : Ev tl σ H (.ref a)) (hx : SqB K H b a xs) (Pv : Nat → L2.St → Hp → Prop) (h0 : ∀ H1, Ex H H1 → Pv 0 σ H1) (hl : ∀ i σ' H', i ≤ xs.length → Pv i σ' H' → SqB K H' b a xs)
    (hs : ∀ i x σ' H', xs[i]? = some x → Pv i σ' H' → g x σ' H' fun σ2 H2 => tu { D with nx := Pv (i + 1), ct := Pv (i + 1), bk := tz D } σ2 H2) (hd : ∀ σ' H', Pv xs.length σ' H' → tz D σ' H') : tSeq (tFor (iAny K tl) g tu) tz D σ H :=
  s_forA (D := { D with nx := tz D }) h hx Pv h0 hl hs hd
/-- the walked thing told by its reading: x[::-1] of a list or a tuple -/
theorem s_forRev {b : Bool} {a : Addr} {xs : List V} (h : Ev tl σ H (.ref a)) (hx : SqB K H b a xs) (Pv : Addr → Nat → L2.St → Hp → Prop) (h0 : ∀ p H1, H p = none → Ex H H1 → SqB K H1 b p xs.reverse → Pv p 0 σ H1) (hl : ∀ p i σ' H', i ≤ xs.length → Pv p i σ' H' → SqB K H' b p xs.reverse)
    (hs : ∀ p i x σ' H', xs.reverse[i]? = some x → Pv p i σ' H' → g x σ' H' fun σ2 H2 => tu { D with nx := Pv p (i + 1), ct := Pv p (i + 1), bk := D.nx } σ2 H2) (hd : ∀ p σ' H', Pv p xs.length σ' H' → D.nx σ' H') : tFor (iAny K (tRevA K tl)) g tu D σ H :=
  h H (Ex.refl H) _ fun H1 e => ⟨b, a, xs, rfl, hx.ex e, fun p hp => by
    have sq : SqB K (upd H1 p (if b = true then .tup xs.reverse else .lst xs.reverse)) b p xs.reverse := by
      cases b with
      | true => exact st_of upd_same
      | false => exact sq_of upd_same
    refine ⟨b, p, rfl, ⟨_, sq⟩, for_it walk_B (Pv p) (h0 p _ (fresh_back e hp) (e.trans (Ex.new hp)) sq) (fun i σ' H' hi q => hl p i σ' H' (by rw [List.length_reverse] at hi; exact hi) q) (fun i x σ' H' H'' _ q y => by obtain ⟨rfl, y2⟩ := y; exact hs p i x σ' H'' y2 q) (fun σ' H' q => hd p σ' H' (by rw [List.length_reverse] at q; exact q))⟩⟩
theorem q_forRev {b : Bool} {a : Addr} {xs : List V} (h : Ev tl σ H (.ref a)) (hx : SqB K H b a xs) (Pv : Addr → Nat → L2.St → Hp → Prop) (h0 : ∀ p H1, H p = none → Ex H H1 → SqB K H1 b p xs.reverse → Pv p 0 σ H1) (hl : ∀ p i σ' H', i ≤ xs.length → Pv p i σ' H' → SqB K H' b p xs.reverse)
    (hs : ∀ p i x σ' H', xs.reverse[i]? = some x → Pv p i σ' H' → g x σ' H' fun σ2 H2 => tu { D with nx := Pv p (i + 1), ct := Pv p (i + 1), bk := tz D } σ2 H2) (hd : ∀ p σ' H', Pv p xs.length σ' H' → tz D σ' H') : tSeq (tFor (iAny K (tRevA K tl)) g tu) tz D σ H :=
  s_forRev (D := { D with nx := tz D }) h hx Pv h0 hl hs hd
/-- for i, x in enumerate(l) -/
theorem s_forEn {b : Bool} {a : Addr} {xs : List V} {ta : TA} {i j : Nat} (h : EvA ta σ H [.ref a]) (hx : SqB K H b a xs) (Pv : Nat → L2.St → Hp → Prop) (h0 : ∀ H1, Ex H H1 → Pv 0 σ H1) (hl : ∀ i σ' H', i ≤ xs.length → Pv i σ' H' → SqB K H' b a xs)
    (hs : ∀ k x σ' H' H'', xs[k]? = some x → Pv k σ' H' → Ex H' H'' → tu { D with nx := Pv (k + 1), ct := Pv (k + 1), bk := D.nx } ((σ'.set i (some (.int (k : Nat)))).set j (some x)) H'') (hd : ∀ σ' H', Pv xs.length σ' H' → D.nx σ' H') :
    tFor (iEnumA K ta) (gTup K 2 (gCons (gName i) (gCons (gName j) gNil))) tu D σ H :=
  h H (Ex.refl H) _ fun H1 e => ⟨b, a, xs, rfl, hx.ex e, for_it walk_enumB Pv (h0 H1 e) hl (fun k x σ' H' H'' _ p y => by
    obtain ⟨T, x1, x2, rfl, hT, rfl, e1, e2⟩ := y
    cases e1
    exact ⟨T, _, rfl, st_of upd_same, rfl, _, _, rfl, _, _, rfl, rfl, hs k x2 σ' H' _ e2 p (Ex.new hT)⟩) hd⟩
theorem q_forEn {b : Bool} {a : Addr} {xs : List V} {ta : TA} {i j : Nat} (h : EvA ta σ H [.ref a]) (hx : SqB K H b a xs) (Pv : Nat → L2.St → Hp → Prop) (h0 : ∀ H1, Ex H H1 → Pv 0 σ H1) (hl : ∀ i σ' H', i ≤ xs.length → Pv i σ' H' → SqB K H' b a xs)
    (hs : ∀ k x σ' H' H'', xs[k]? = some x → Pv k σ' H' → Ex H' H'' → tu { D with nx := Pv (k + 1), ct := Pv (k + 1), bk := tz D } ((σ'.set i (some (.int (k : Nat)))).set j (some x)) H'') (hd : ∀ σ' H', Pv xs.length σ' H' → tz D σ' H') :
    tSeq (tFor (iEnumA K ta) (gTup K 2 (gCons (gName i) (gCons (gName j) gNil))) tu) tz D σ H :=
  s_forEn (D := { D with nx := tz D }) h hx Pv h0 hl hs hd
/-- a comprehension over a list or a tuple -/
theorem el_lcA {b : Bool} {a : Addr} {xs : List V} {te : TE} {j : Nat} {vs : List Nat} (f : Nat → Bool) (v : Nat → V) (h : Ev tl σ H (.ref a)) (hx : SqB K H b a xs) (hz : xs.length ≤ 40000) (hw : ∀ x, wipe ((wipe σ vs).set j (some x)) vs = wipe σ vs)
    (ht : ∀ (i : Nat) (x : V) H1, Ex H H1 → xs[i]? = some x → EvT t ((wipe σ vs).set j (some x)) H1 (f i)) (he : ∀ (i : Nat) (x : V) H1, Ex H H1 → xs[i]? = some x → f i = true → Ev te ((wipe σ vs).set j (some x)) H1 (v i)) :
    EvL (tLc (iAny K tl) (gName j) t te vs) σ H (given xs.length f v) := fun H0 e Q q => h H0 e _ fun H1 e1 => ⟨b, a, rfl, ⟨xs, hx.ex (e.trans e1)⟩, fun Dl hD =>
  lc_it walk_B (Cw H1 f v Dl) ⟨hD, Ex.new hD, upd_same⟩ (fun i H' _ p => hx.ex ((e.trans e1).trans p.2.1)) (fun i x H' H'' hi p y => by
    obtain ⟨rfl, y2⟩ := y
    exact ⟨hw x, cw_turn p (by omega) (ht i x H1 (e.trans e1) y2) (fun hf => he i x H1 (e.trans e1) y2 hf)⟩)
    (fun H' p => q Dl H' (fresh_back e1 p.1) (e1.trans p.2.1) p.2.2)⟩
/-- all(new list of bools) -/
theorem ev_all {bs : List Bool} {xs : List V} (h : EvL te σ H xs) (hx : xs = bs.map V.bl) : Ev (tCB (rAll K) (tCons te tNil)) σ H (.bl (bs.all id)) := fun H1 e Q q =>
  h H1 e _ fun p H2 _ e2 h2 => ⟨p, bs, rfl, sq_of (hx ▸ h2), q H2 e2⟩
theorem ev_int1 {i : Int} (h : Ev te σ H (.int i)) : Ev (tCB (fun xs H Q => (∃ i, xs = [.int i] ∧ Q (.int i) H) ∨ ∃ k, xs = [.bl k] ∧ Q (.int (if k then 1 else 0)) H) (tCons te tNil)) σ H (.int i) := fun H1 e Q q =>
  h H1 e _ fun H2 e2 => .inl ⟨i, rfl, q H2 e2⟩
end
/-! ### defs by name -/
structure ClC (CX : CXT) (P : Program) (w : World) (K : PySem.W.Frag) (mg : Str → Option Value) (base : Heap) (k : Nat) (x : Str) (ps : List Str) (sp : Sp) : Prop where
  ex : ∃ (f : Addr) (fd : FuncData), mg x = some (.ref f) ∧ PySem.W.keepIn K (.ref f) = true ∧ Binds K fd ps [] ∧ FnOk P w K mg base CX k f fd ps sp
section
variable {X : Cx} {k j : Nat} {x : Str} {ps : List Str} {sp : Sp} {p pos : Pos} {e : Expr} {es : List Expr} {t : TA} {E : XK}
theorem pe_cl (c : ClC CX0 X.prog X.w X.K X.mg X.base k x ps sp) (hr : Room j X.A) (hk : k ≤ j) (hg : Gl X x) (ha : PA X (e :: es) t)
    (hdb : (x == ("__debug__" : Str)) = false := by decide) (he : starEach (e :: es) X.env = (false, eval e X.env) :: starEach es X.env := by rfl) (hpl : (backTo pos (starEach es X.env)).any (·.1) = false := by rfl) :
    PE X (.Call (.Name x p) (e :: es) [] pos) (tCall sp [] E0 t) := by
  obtain ⟨f, fd, hm, kp, b, F⟩ := c.ex
  exact pe_call F (hr.mono hk) hg hm kp b .nil (fun _ _ _ _ _ _ _ h => h.elim) ha hdb he hpl
theorem pe_clX (c : ClC (L2.CX X.prog X.w) X.prog X.w X.K X.mg X.base k x ps sp) (hr : Room j X.A) (hk : k ≤ j) (hx : Passes (L2.CX X.prog X.w) X E) (hg : Gl X x) (ha : PA X (e :: es) t)
    (hdb : (x == ("__debug__" : Str)) = false := by decide) (he : starEach (e :: es) X.env = (false, eval e X.env) :: starEach es X.env := by rfl) (hpl : (backTo pos (starEach es X.env)).any (·.1) = false := by rfl) :
    PE X (.Call (.Name x p) (e :: es) [] pos) (tCall sp [] E t) := by
  obtain ⟨f, fd, hm, kp, b, F⟩ := c.ex
  exact pe_call F (hr.mono hk) hg hm kp b .nil hx ha hdb he hpl
end
end TC
set_option maxHeartbeats 2000000
/-! More of the Ev style: values told by a word, classes made, fields, calls. -/
namespace TC
open PySem PySem.Spec PyProof.Rows L2 Evl
/-- e gives a v of which P holds -/
def EvP (te : TE) (σ : L2.St) (H : Hp) (P : V → Hp → Prop) : Prop := ∀ H1, Ex H H1 → ∀ Q : VK, (∀ v H2, Ex H1 H2 → P v H2 → Q v H2) → te σ H1 Q
/-- the arguments, told by a word -/
def EvAP (ta : TA) (σ : L2.St) (H : Hp) (P : List V → Hp → Prop) : Prop := ∀ H1, Ex H H1 → ∀ Q : List V → Hp → Prop, (∀ vs H2, Ex H1 H2 → P vs H2 → Q vs H2) → ta σ H1 Q
/-- a word that stays -/
def MonP (P : V → Hp → Prop) : Prop := ∀ v H H', Ex H H' → P v H → P v H'
/-- a promise: called with vs it gives a v of which P holds -/
def SpP (sp : Sp) (vs : List V) (H : Hp) (P : V → Hp → Prop) : Prop := ∀ H1, Ex H H1 → ∀ Q : VK, (∀ v H2, Ex H1 H2 → P v H2 → Q v H2) → ∀ E : XK, sp vs H1 Q E
/-- all but what stands at x -/
def ExX (x : Addr) (H H' : Hp) : Prop := ∀ a o, a ≠ x → H a = some o → H' a = some o
theorem ExX.refl {x : Addr} {H : Hp} : ExX x H H := fun _ _ _ h => h
theorem ExX.of {x : Addr} {H H' : Hp} (e : Ex H H') : ExX x H H' := fun a o _ h => e a o h
theorem ExX.trans {x : Addr} {H H1 H2 : Hp} (a : ExX x H H1) (b : ExX x H1 H2) : ExX x H H2 := fun c o n h => b c o n (a c o n h)
theorem ExX.upd {x : Addr} {H : Hp} {o : HO} : ExX x H (upd H x o) := fun a u n h => by rw [upd_ne n]; exact h
theorem ExX.ex {x : Addr} {H H' G : Hp} (e : ExX x H H') (g : Ex G H) (n : G x = none) : Ex G H' := fun a o h => e a o (fun z => by rw [z, n] at h; cases h) (g a o h)
section
variable {K : PySem.W.Frag} {σ : L2.St} {H H' : Hp} {ta tb te tx tl : TE} {t u : TT} {x y z v : V} {D : Ends} {tu tw tz : TS} {g : TG} {P R : V → Hp → Prop}
theorem Ev.p (h : Ev te σ H v) : EvP te σ H (fun w _ => w = v) := fun H1 e Q q => h H1 e Q fun H2 e2 => q v H2 e2 rfl
theorem EvP.ev (h : EvP te σ H (fun w _ => w = v)) : Ev te σ H v := fun H1 e Q q => h H1 e Q fun w H2 e2 ew => ew ▸ q H2 e2
theorem EvP.imp (h : EvP te σ H P) (k : ∀ v H1, Ex H H1 → P v H1 → R v H1) : EvP te σ H R := fun H1 e Q q => h H1 e Q fun w H2 e2 p => q w H2 e2 (k w H2 (e.trans e2) p)
theorem EvP.mono (e : Ex H H') (h : EvP te σ H P) : EvP te σ H' P := fun H1 a Q q => h H1 (e.trans a) Q q
theorem EvL.p {xs : List V} (h : EvL te σ H xs) : EvP te σ H (fun v H1 => ∃ a, v = .ref a ∧ H1 a = some (.lst xs)) := fun H1 e Q q => h H1 e Q fun p H2 _ e2 hp => q _ H2 e2 ⟨p, rfl, hp⟩
theorem EvU.p {xs : List V} (h : EvU te σ H xs) : EvP te σ H (fun v H1 => ∃ a, v = .ref a ∧ H1 a = some (.tup xs)) := fun H1 e Q q => h H1 e Q fun p H2 _ e2 hp => q _ H2 e2 ⟨p, rfl, hp⟩
theorem EvA.p {ta : TA} {vs : List V} (h : EvA ta σ H vs) : EvAP ta σ H (fun ws _ => ws = vs) := fun H1 e Q q => h H1 e Q fun H2 e2 => q vs H2 e2 rfl
theorem ea1 (h : Ev te σ H v) : EvA (tCons te tNil) σ H [v] := ea_cons h ea_nil
theorem ea2 {w : V} (h : Ev te σ H v) (h2 : Ev tx σ H w) : EvA (tCons te (tCons tx tNil)) σ H [v, w] := ea_cons h (ea_cons h2 ea_nil)
theorem eap_nil : EvAP tNil σ H (fun ws _ => ws = []) := EvA.p ea_nil
theorem eap1 (h : EvP te σ H P) : EvAP (tCons te tNil) σ H (fun ws H1 => ∃ v, ws = [v] ∧ P v H1) := fun H1 e Q q => h H1 e _ fun v H2 e2 p => q [v] H2 e2 ⟨v, rfl, p⟩
theorem eap_cons {tr : TA} {PA : List V → Hp → Prop} (m : MonP P) (h : EvP te σ H P) (hr : ∀ v H1, Ex H H1 → P v H1 → EvAP tr σ H1 PA) : EvAP (tCons te tr) σ H (fun ws H1 => ∃ v r, ws = v :: r ∧ P v H1 ∧ PA r H1) := fun H1 e Q q =>
  h H1 e _ fun v H2 e2 p => hr v H2 (e.trans e2) p H2 (Ex.refl H2) _ fun r H3 e3 p3 => q _ H3 (e2.trans e3) ⟨v, r, rfl, m v H2 H3 e3 p, p3⟩
theorem ep_tup {ta : TA} {PA : List V → Hp → Prop} (h : EvAP ta σ H PA) (hl : ∀ vs H1, PA vs H1 → vs.length ≤ 100000) (m : ∀ vs H H', Ex H H' → PA vs H → PA vs H') : EvP (tTup ta) σ H (fun v H1 => ∃ a vs, v = .ref a ∧ H1 a = some (.tup vs) ∧ PA vs H1) := fun H1 e Q q =>
  h H1 e _ fun vs H2 e2 p => ⟨sz_of (hl vs H2 p), fun a ha => q _ _ (e2.trans (Ex.new ha)) ⟨a, vs, rfl, upd_same, m vs _ _ (Ex.new ha) p⟩⟩
theorem ep_lst {ta : TA} {PA : List V → Hp → Prop} (h : EvAP ta σ H PA) (hl : ∀ vs H1, PA vs H1 → vs.length ≤ 100000) (m : ∀ vs H H', Ex H H' → PA vs H → PA vs H') : EvP (tLst ta) σ H (fun v H1 => ∃ a vs, v = .ref a ∧ H1 a = some (.lst vs) ∧ PA vs H1) := fun H1 e Q q =>
  h H1 e _ fun vs H2 e2 p => ⟨sz_of (hl vs H2 p), fun a ha => q _ _ (e2.trans (Ex.new ha)) ⟨a, vs, rfl, upd_same, m vs _ _ (Ex.new ha) p⟩⟩
/-- calls -/
theorem ep_call {sp : Sp} {vs : List V} {E : XK} {ta : TA} (h : EvA ta σ H vs) (hs : SpP sp vs H P) : EvP (tCall sp [] E ta) σ H P := fun H1 e Q q =>
  h H1 e _ fun H2 e2 => by rw [List.append_nil]; exact hs H2 (e.trans e2) Q (fun v H3 e3 => q v H3 (e2.trans e3)) E
theorem ep_callP {sp : Sp} {PA : List V → Hp → Prop} {E : XK} {ta : TA} (h : EvAP ta σ H PA) (hs : ∀ vs H1, Ex H H1 → PA vs H1 → SpP sp vs H1 P) : EvP (tCall sp [] E ta) σ H P := fun H1 e Q q =>
  h H1 e _ fun vs H2 e2 p => by rw [List.append_nil]; exact hs vs H2 (e.trans e2) p H2 (Ex.refl H2) Q (fun v H3 e3 => q v H3 (e2.trans e3)) E
theorem ev_call0 {sp : Sp} {vs : List V} {E : XK} {ta : TA} (h : EvA ta σ H vs) (hs : SpV sp vs H z) : Ev (tCall sp [] E ta) σ H z := ev_call h (by rw [List.append_nil]; exact hs)
/-- the second operand told by a word -/
theorem ep_op2 {r : R2} {Pa Pb : V → Hp → Prop} (m : MonP Pa) (ha : EvP ta σ H Pa) (hb : ∀ H1, Ex H H1 → EvP tb σ H1 Pb) (hr : ∀ x y H1, Ex H H1 → Pa x H1 → Pb y H1 → ∀ Q : VK, (∀ v H2, Ex H1 H2 → P v H2 → Q v H2) → r x y H1 Q) : EvP (tOp r ta tb) σ H P := fun H1 e Q q =>
  ha H1 e _ fun x H2 e2 px => hb H2 (e.trans e2) H2 (Ex.refl H2) _ fun y H3 e3 py => hr x y H3 ((e.trans e2).trans e3) (m x _ _ e3 px) py Q fun v H4 e4 p => q v H4 ((e2.trans e3).trans e4) p
/-- the field of an instance -/
theorem ev_fld {f : Str} {a C dx : Addr} {fs : List (Str × V)} (h : Ev te σ H (.ref a)) (hi : H a = some (.ins C dx fs)) (c : Cls K C) (n : NoAttr K C f) (hl : fs.lookup f = some v) : Ev (tFld K te f) σ H v := fun H1 e Q q =>
  h H1 e _ fun H2 e2 => ⟨a, C, dx, fs, v, rfl, (e.trans e2) _ _ hi, c, n, hl, q H2 e2⟩
/-- C(e, ..) -/
def SpMk (sp : Sp) (vs : List V) (H : Hp) (C : Addr) (P : Addr → Hp → Prop) : Prop := ∀ H1, Ex H H1 → ∀ x dx, H1 x = none → H1 dx = none → dx ≠ x → ∀ (Q : VK) (E : XK), (∀ H3, ExX x (upd (upd H1 dx (.own x)) x (.ins C dx [])) H3 → P x H3 → Q .non H3) → sp (.ref x :: vs) (upd (upd H1 dx (.own x)) x (.ins C dx [])) Q E
theorem ep_make {sp : Sp} {vs : List V} {C : Addr} {Pa : Addr → Hp → Prop} {E : XK} {ta : TA} (h : EvA ta σ H vs) (hs : SpMk sp vs H C Pa) : EvP (tMake C sp [] E ta) σ H (fun v H1 => ∃ x, v = .ref x ∧ Pa x H1) := fun H1 e Q q =>
  h H1 e _ fun H2 e2 x dx nx nd ne => by
    rw [List.append_nil]
    refine hs H2 (e.trans e2) x dx nx nd ne _ E fun H3 e3 p => ⟨rfl, q _ H3 (e2.trans fun a o ha => ?_) ⟨x, rfl, p⟩⟩
    refine e3 a o (ne_of_none ha nx) ?_
    rw [upd_ne (ne_of_none ha nx), upd_ne (ne_of_none ha nd)]
    exact ha
theorem ep_makeP {sp : Sp} {PA : List V → Hp → Prop} {C : Addr} {Pa : Addr → Hp → Prop} {E : XK} {ta : TA} (h : EvAP ta σ H PA) (hs : ∀ vs H1, Ex H H1 → PA vs H1 → SpMk sp vs H1 C Pa) : EvP (tMake C sp [] E ta) σ H (fun v H1 => ∃ x, v = .ref x ∧ Pa x H1) := fun H1 e Q q =>
  h H1 e _ fun vs H2 e2 pa x dx nx nd ne => by
    rw [List.append_nil]
    refine hs vs H2 (e.trans e2) pa H2 (Ex.refl H2) x dx nx nd ne _ E fun H3 e3 p => ⟨rfl, q _ H3 (e2.trans fun a o ha => ?_) ⟨x, rfl, p⟩⟩
    refine e3 a o (ne_of_none ha nx) ?_
    rw [upd_ne (ne_of_none ha nx), upd_ne (ne_of_none ha nd)]
    exact ha
/-- == and != of data -/
theorem ev_eqD {d e : PyData} (ha : Ev ta σ H x) (hb : Ev tb σ H y) (h1 : Dp K H x d) (h2 : Dp K H y e) (s1 : SeqAt.shaped d = true) (s2 : SeqAt.shaped e = true) : Ev (tOp (rEqD K) ta tb) σ H (.bl (PyData.eqv d e)) :=
  ev_op ha hb fun H1 ex Q q => ⟨d, e, Dp.ex ex h1, Dp.ex ex h2, s1, s2, q H1 (Ex.refl H1)⟩
theorem ev_neD {d e : PyData} (ha : Ev ta σ H x) (hb : Ev tb σ H y) (h1 : Dp K H x d) (h2 : Dp K H y e) (s1 : SeqAt.shaped d = true) (s2 : SeqAt.shaped e = true) : Ev (tOp (rNeD K) ta tb) σ H (.bl (!PyData.eqv d e)) :=
  ev_op ha hb fun H1 ex Q q => ⟨d, e, Dp.ex ex h1, Dp.ex ex h2, s1, s2, q H1 (Ex.refl H1)⟩
theorem monD {d : PyData} : MonP (fun v H => Dp K H v d) := fun _ _ _ e h => Dp.ex e h
theorem ep_eqD {d e : PyData} (ha : EvP ta σ H (fun v H => Dp K H v d)) (hb : EvP tb σ H (fun v H => Dp K H v e)) (s1 : SeqAt.shaped d = true) (s2 : SeqAt.shaped e = true) : Ev (tOp (rEqD K) ta tb) σ H (.bl (PyData.eqv d e)) :=
  EvP.ev (ep_op2 (monD (d := d)) ha (fun H1 e1 => hb.mono e1) fun x y H1 _ p1 p2 Q q => ⟨d, e, p1, p2, s1, s2, q _ H1 (Ex.refl H1) rfl⟩)
theorem ep_neD {d e : PyData} (ha : EvP ta σ H (fun v H => Dp K H v d)) (hb : EvP tb σ H (fun v H => Dp K H v e)) (s1 : SeqAt.shaped d = true) (s2 : SeqAt.shaped e = true) : Ev (tOp (rNeD K) ta tb) σ H (.bl (!PyData.eqv d e)) :=
  EvP.ev (ep_op2 (monD (d := d)) ha (fun H1 e1 => hb.mono e1) fun x y H1 _ p1 p2 Q q => ⟨d, e, p1, p2, s1, s2, q _ H1 (Ex.refl H1) rfl⟩)
theorem et_T {b : Bool} (h : Ev te σ H (.bl b)) : EvT (tTest te) σ H b := et_test h
/-- gcd -/
theorem ev_gcd {a b : Int} (h : EvA ta2 σ H [.int a, .int b]) : Ev (tCB rGcd ta2) σ H (.int ((Nat.gcd a.natAbs b.natAbs : Nat) : Int)) := ev_cb h fun H1 _ _ q => ⟨a, b, rfl, q H1 (Ex.refl H1)⟩
/-- statements with a value told by a word -/
theorem s_retP (h : EvP te σ H P) (k : ∀ v H1, Ex H H1 → P v H1 → D.rt v H1) : tRet te D σ H := h H (Ex.refl H) _ k
theorem s_asgP {i : Nat} (h : EvP te σ H P) (k : ∀ v H1, Ex H H1 → P v H1 → D.nx (σ.set i (some v)) H1) : tAsg te (gName i) D σ H := h H (Ex.refl H) _ k
theorem q_asgP {i : Nat} (h : EvP te σ H P) (k : ∀ v H1, Ex H H1 → P v H1 → tz D (σ.set i (some v)) H1) : tSeq (tAsg te (gName i)) tz D σ H := h H (Ex.refl H) _ k
theorem q_dropP (h : EvP te σ H P) (k : ∀ v H1, Ex H H1 → P v H1 → tz D σ H1) : tSeq (tDrop te) tz D σ H := h H (Ex.refl H) _ k
theorem q_par {ta : TA} {i j : Nat} {v w : V} (h : EvA ta σ H [v, w]) (k : ∀ H1, Ex H H1 → tz D ((σ.set i (some v)).set j (some w)) H1) : tSeq (tPar i j ta) tz D σ H := h H (Ex.refl H) _ fun H1 e => ⟨v, w, rfl, k H1 e⟩
theorem s_par {ta : TA} {i j : Nat} {v w : V} (h : EvA ta σ H [v, w]) (k : ∀ H1, Ex H H1 → D.nx ((σ.set i (some v)).set j (some w)) H1) : tPar i j ta D σ H := h H (Ex.refl H) _ fun H1 e => ⟨v, w, rfl, k H1 e⟩
/-- found, here = ([], e) -/
theorem q_parL {i j : Nat} {xs : List V} {w : V} (h : EvL te σ H xs) (h2 : Ev tx σ H w) (k : ∀ p H1, H p = none → Ex H H1 → H1 p = some (.lst xs) → tz D ((σ.set i (some (.ref p))).set j (some w)) H1) : tSeq (tPar i j (tCons te (tCons tx tNil))) tz D σ H :=
  h H (Ex.refl H) _ fun p H1 hp e h1 => h2 H1 e _ fun H2 e2 => ⟨_, w, rfl, k p H2 hp (e.trans e2) (e2 p _ h1)⟩
/-- append of what is told by a word -/
theorem s_appP {l : Addr} {xs : List V} (hl : H l = some (.lst xs)) (ha : Ev ta σ H (.ref l)) (h : EvP te σ H P) (hz : xs.length < 100000) (k : ∀ v H1, Ex H H1 → P v H1 → D.nx σ (upd H1 l (.lst (xs ++ [v])))) :
    tDrop (tBM K "list" rAppend ta (tCons te tNil)) D σ H := ha H (Ex.refl H) _ fun H1 e1 =>
  ⟨Or.inl ⟨rfl, xs, sq_of (e1 l _ hl)⟩, h H1 e1 _ fun v H2 e2 p => ⟨l, xs, v, rfl, rfl, e2 l _ (e1 l _ hl), sz_lt hz, k v H2 (e1.trans e2) p⟩⟩
theorem q_appP {l : Addr} {xs : List V} (hl : H l = some (.lst xs)) (ha : Ev ta σ H (.ref l)) (h : EvP te σ H P) (hz : xs.length < 100000) (k : ∀ v H1, Ex H H1 → P v H1 → tz D σ (upd H1 l (.lst (xs ++ [v])))) :
    tSeq (tDrop (tBM K "list" rAppend ta (tCons te tNil))) tz D σ H := s_appP (D := { D with nx := tz D }) hl ha h hz k
theorem s_fld {f : Str} {x C dx : Addr} {fs : List (Str × V)} (h : EvP te σ H P) (ho : Ev ta σ H (.ref x)) (hi : H x = some (.ins C dx fs)) (c : Cls K C) (n : NoAttr K C f) (hl : fs.length < 1000) (k : ∀ v H1 H2, Ex H H1 → Ex H1 H2 → P v H1 → D.nx σ (upd H2 x (.ins C dx (putF f v fs)))) : sFld K ta te f D σ H :=
  h H (Ex.refl H) _ fun v H1 e1 p => ho H1 e1 _ fun H2 e2 => ⟨x, C, dx, fs, rfl, (e1.trans e2) _ _ hi, c, n, hl, k v H1 H2 e1 e2 p⟩
theorem q_fld {f : Str} {x C dx : Addr} {fs : List (Str × V)} (h : EvP te σ H P) (ho : Ev ta σ H (.ref x)) (hi : H x = some (.ins C dx fs)) (c : Cls K C) (n : NoAttr K C f) (hl : fs.length < 1000) (k : ∀ v H1 H2, Ex H H1 → Ex H1 H2 → P v H1 → tz D σ (upd H2 x (.ins C dx (putF f v fs)))) : tSeq (sFld K ta te f) tz D σ H :=
  s_fld (D := { D with nx := tz D }) h ho hi c n hl k
theorem ep_if {b : Bool} (h : EvT t σ H b) (h1 : b = true → EvP ta σ H P) (h2 : b = false → EvP tb σ H P) : EvP (tIf t ta tb) σ H P := fun H1 e Q q => h H1 e _ fun H2 e2 => by
  cases b with
  | true =>
    show ta σ H2 Q
    exact h1 rfl H2 (e.trans e2) Q fun v H3 e3 p => q v H3 (e2.trans e3) p
  | false =>
    show tb σ H2 Q
    exact h2 rfl H2 (e.trans e2) Q fun v H3 e3 p => q v H3 (e2.trans e3) p
/-- list(x), tuple(x) -/
theorem el_listOf {b : Bool} {a : Addr} {xs : List V} (h : Ev te σ H (.ref a)) (hx : SqB K H b a xs) : EvL (tCB (fun xs H Q => ∃ p ys, xs = [.ref p] ∧ (SqL K H p ys ∨ SqT K H p ys) ∧ ∀ l, H l = none → Q (.ref l) (upd H l (.lst ys))) (tCons te tNil)) σ H xs := fun H1 e Q q =>
  h H1 e _ fun H2 e2 => ⟨a, xs, rfl, (hx.ex (e.trans e2)).or, fun l hl => q l _ (fresh_back e2 hl) (e2.trans (Ex.new hl)) upd_same⟩
abbrev rTupOf (K : PySem.W.Frag) : List V → Hp → VK → Prop := fun xs H Q => ∃ p ys, xs = [.ref p] ∧ ((SqL K H p ys ∧ ∀ l, H l = none → Q (.ref l) (upd H l (.tup ys))) ∨ (SqT K H p ys ∧ Q (.ref p) H))
theorem ep_tupleOf {b : Bool} {R : List V → Hp → Prop} (h : EvP te σ H (fun v H1 => ∃ a xs, v = .ref a ∧ SqB K H1 b a xs ∧ R xs H1)) (m : ∀ xs H H', Ex H H' → R xs H → R xs H') : EvP (tCB (rTupOf K) (tCons te tNil)) σ H (fun v H1 => ∃ a xs, v = .ref a ∧ SqT K H1 a xs ∧ R xs H1) := fun H1 e Q q =>
  h H1 e _ fun v H2 e2 ⟨a, ys, ev, hs, hr⟩ => by
    subst ev
    cases b with
    | true => exact ⟨a, ys, rfl, .inr ⟨hs, q _ H2 e2 ⟨a, ys, rfl, hs, hr⟩⟩⟩
    | false => exact ⟨a, ys, rfl, .inl ⟨hs, fun l hl => q _ _ (e2.trans (Ex.new hl)) ⟨l, ys, rfl, st_of upd_same, m _ _ _ (Ex.new hl) hr⟩⟩⟩
end
/-! ### classes by name -/
structure MkC (CX : CXT) (P : Program) (w : World) (K : PySem.W.Frag) (mg : Str → Option Value) (base : Heap) (k : Nat) (x : Str) (C : Addr) (ps : List Str) (sp : Sp) : Prop where
  ex : ∃ (f : Addr) (fd : FuncData), mg x = some (.ref C) ∧ Mk K C f ∧ Binds K fd ps [] ∧ FnOk P w K mg base CX k f fd ps sp
section
variable {X : Cx} {k j : Nat} {x : Str} {C : Addr} {ps : List Str} {sp : Sp} {p pos : Pos} {e : Expr} {es : List Expr} {t : TA} {E : XK}
theorem pe_mkc (c : MkC CX0 X.prog X.w X.K X.mg X.base k x C ps sp) (hr : Room j X.A) (hk : k + 1 ≤ j) (hg : Gl X x) (ha : PA X (e :: es) t)
    (hdb : (x == ("__debug__" : Str)) = false := by decide) (he : starEach (e :: es) X.env = (false, eval e X.env) :: starEach es X.env := by rfl) (hpl : (backTo pos (starEach es X.env)).any (·.1) = false := by rfl) :
    PE X (.Call (.Name x p) (e :: es) [] pos) (tMake C sp [] E0 t) := by
  obtain ⟨f, fd, hm, M, b, F⟩ := c.ex
  exact pe_make M F (hr.mono hk) hg hm b .nil (fun _ _ _ _ _ _ _ h => h.elim) ha hdb he hpl
end
/-- a def of which nothing is promised: it is not called -/
theorem cl_never {CX : CXT} {P : Program} {w : World} {K : PySem.W.Frag} {mg : Str → Option Value} {base : Heap} {f : Addr} {fd : FuncData} {x : Str} {ps : List Str} (hm : mg x = some (.ref f)) (kp : PySem.W.keepIn K (.ref f) = true) (b : Binds K fd ps []) : ClC CX P w K mg base 0 x ps (fun _ _ _ _ => False) :=
  ⟨f, fd, hm, kp, b, ⟨fun _ _ _ _ h => h.elim, fun _ _ _ _ _ _ _ _ _ _ _ _ _ h => h.elim⟩⟩
theorem given_all {n : Nat} {v : Nat → V} : given n (fun _ => true) v = (List.range n).map v := by
  unfold given
  rw [List.filter_eq_self.mpr (fun _ _ => rfl)]
theorem range_getD {α β : Type} (f : α → β) (z : α) : ∀ ds : List α, (List.range ds.length).map (fun i => f (ds.getD i z)) = ds.map f := fun ds => by
  apply List.ext_getElem
  · simp
  · intro i h1 h2
    simp at h1 h2
    simp [h1]
end TC
set_option maxHeartbeats 2000000
/-! Loops that look for the first index. -/
namespace TC
open PySem PySem.Spec PyProof.Rows L2 Evl
/-- the first of lo, lo + 1, .. (k of them) at which p holds -/
def fst (p : Nat → Bool) : Nat → Nat → Option Nat
  | _, 0 => none
  | lo, k + 1 => if p lo = true then some lo else fst p (lo + 1) k
theorem fst_yes {p : Nat → Bool} {lo k : Nat} (h : p lo = true) : fst p lo (k + 1) = some lo := by
  show (if p lo = true then some lo else fst p (lo + 1) k) = some lo
  rw [if_pos h]
theorem fst_no {p : Nat → Bool} {lo k : Nat} (h : p lo = false) : fst p lo (k + 1) = fst p (lo + 1) k := by
  show (if p lo = true then some lo else fst p (lo + 1) k) = fst p (lo + 1) k
  rw [if_neg (by rw [h]; exact Bool.false_ne_true)]
theorem fst_cut {p : Nat → Bool} (lo : Nat) : ∀ (i n : Nat), i ≤ n → (∀ j, lo ≤ j → j < lo + i → p j = false) → fst p lo n = fst p (lo + i) (n - i)
  | 0, n, _, _ => by simp
  | i + 1, n, h, hp => by
    obtain ⟨m, rfl⟩ : ∃ m, n = m + 1 := ⟨n - 1, by omega⟩
    rw [fst_no (hp lo (Nat.le_refl _) (by omega)), fst_cut (lo + 1) i m (by omega) (fun j h1 h2 => hp j (by omega) (by omega))]
    have e1 : lo + 1 + i = lo + (i + 1) := by omega
    have e2 : m - i = m + 1 - (i + 1) := by omega
    rw [e1, e2]
theorem fst_at {p : Nat → Bool} {lo i n : Nat} (hi : i < n) (hp : ∀ j, lo ≤ j → j < lo + i → p j = false) (hy : p (lo + i) = true) : fst p lo n = some (lo + i) := by
  rw [fst_cut lo i n (Nat.le_of_lt hi) hp]
  obtain ⟨m, hm⟩ : ∃ m, n - i = m + 1 := ⟨n - i - 1, by omega⟩
  rw [hm, fst_yes hy]
theorem fst_out {p : Nat → Bool} {lo n : Nat} (hp : ∀ j, lo ≤ j → j < lo + n → p j = false) : fst p lo n = none := by
  rw [fst_cut lo n n (Nat.le_refl _) hp, Nat.sub_self]
  rfl
/-- σ, its slot j whatever -/
def SetAtJ (σ : L2.St) (j : Nat) (σ' : L2.St) : Prop := σ' = σ ∨ ∃ v, σ' = σ.set j v
theorem SetAtJ.set {σ σ' : L2.St} {j : Nat} (h : SetAtJ σ j σ') (v : Option V) : σ'.set j v = σ.set j v := by
  rcases h with rfl | ⟨u, rfl⟩
  · rfl
  · rw [List.set_set]
theorem SetAtJ.of {σ : L2.St} {j : Nat} {v : Option V} : SetAtJ σ j (σ.set j v) := .inr ⟨v, rfl⟩
theorem SetAtJ.get {σ σ' : L2.St} {j i : Nat} (h : SetAtJ σ j σ') (n : i ≠ j) : σ'[i]? = σ[i]? := by
  rcases h with rfl | ⟨u, rfl⟩
  · rfl
  · rw [List.getElem?_set_ne (Ne.symm n)]
section
variable {K : PySem.W.Frag} {σ : L2.St} {H : Hp} {tl : TE} {t : TT} {D : Ends} {tu tz : TS} {ta : TA}
/-- for j in range(lo, n): if t: .. return -/
theorem q_firstR {j lo n : Nat} {p : Nat → Bool} (h : EvA ta σ H [.int (lo : Nat), .int (n : Nat)]) (hlo : lo ≤ 100000) (hn : n ≤ 100000)
    (ht : ∀ (i : Nat) H1, Ex H H1 → lo ≤ i → i < n → EvT t (σ.set j (some (.int (i : Nat)))) H1 (p i))
    (hr : ∀ (i : Nat) H1 (D' : Ends), D'.rt = D.rt → Ex H H1 → lo ≤ i → i < n → fst p lo (n - lo) = some i → tu D' (σ.set j (some (.int (i : Nat)))) H1)
    (hd : ∀ σ' H1, Ex H H1 → SetAtJ σ j σ' → fst p lo (n - lo) = none → tz D σ' H1) : tSeq (tFor (iRng2 ta) (gName j) (tIfS t tu tNext)) tz D σ H := by
  refine q_forR2 (lo := (lo : Int)) (n := (n : Int)) h ⟨by omega, by omega, by omega, by omega⟩ (fun i σ' H' => SetAtJ σ j σ' ∧ Ex H H' ∧ ∀ k, lo ≤ k → k < lo + i → p k = false) (fun H1 e => ⟨.inl rfl, e, fun k h1 h2 => absurd h2 (by omega)⟩) (fun i σ' H' hi ⟨s1, e1, hp⟩ => ?_) (fun σ' H' ⟨s1, e1, hp⟩ => hd σ' H' e1 s1 (fst_out (by
    have e2 : ((n : Int) - (lo : Int)).toNat = n - lo := by omega
    rw [e2] at hp
    exact hp)))
  have e3 : (lo : Int) + (i : Int) = ((lo + i : Nat) : Int) := by omega
  rw [e3, s1.set]
  refine s_when (ht (lo + i) H' e1 (by omega) (by omega)) (fun hy H1 e2 => ?_) (fun hno H1 e2 => ?_)
  · exact hr (lo + i) H1 _ rfl (e1.trans e2) (by omega) (by omega) (fst_at (by omega) hp hy)
  · refine ⟨SetAtJ.of, e1.trans e2, fun k h1 h2 => ?_⟩
    by_cases hk : k = lo + i
    · rw [hk]; exact hno
    · exact hp k h1 (by omega)
/-- for i, x in enumerate(l): if t: .. return -/
theorem q_firstE {b : Bool} {a : Addr} {xs : List V} {i j : Nat} {p : Nat → Bool} (h : EvA ta σ H [.ref a]) (hx : SqB K H b a xs)
    (ht : ∀ (k : Nat) x H1, Ex H H1 → xs[k]? = some x → EvT t ((σ.set i (some (.int (k : Nat)))).set j (some x)) H1 (p k))
    (hr : ∀ (k : Nat) x H1 (D' : Ends), D'.rt = D.rt → Ex H H1 → xs[k]? = some x → fst p 0 xs.length = some k → tu D' ((σ.set i (some (.int (k : Nat)))).set j (some x)) H1)
    (hd : ∀ σ' H1, Ex H H1 → (σ' = σ ∨ ∃ u v, σ' = (σ.set i u).set j v) → fst p 0 xs.length = none → tz D σ' H1) (hij : i ≠ j) : tSeq (tFor (iEnumA K ta) (gTup K 2 (gCons (gName i) (gCons (gName j) gNil))) (tIfS t tu tNext)) tz D σ H := by
  have st : ∀ σ', (σ' = σ ∨ ∃ u v, σ' = (σ.set i u).set j v) → ∀ u v, (σ'.set i u).set j v = (σ.set i u).set j v := fun σ' z u v => by
    rcases z with rfl | ⟨u', v', rfl⟩
    · rfl
    · rw [List.set_comm _ _ (Ne.symm hij), List.set_set, List.set_set]
  refine q_forEn h hx (fun k σ' H' => (σ' = σ ∨ ∃ u v, σ' = (σ.set i u).set j v) ∧ Ex H H' ∧ ∀ m, m < k → p m = false) (fun H1 e => ⟨.inl rfl, e, fun k h1 => absurd h1 (by omega)⟩) (fun k σ' H' _ q => hx.ex q.2.1) (fun k x σ' H' H'' hk ⟨s1, e1, hp⟩ e2 => ?_) (fun σ' H' ⟨s1, e1, hp⟩ => hd σ' H' e1 s1 (fst_out (fun m _ h2 => hp m (by omega))))
  rw [st σ' s1]
  refine s_when (ht k x H'' (e1.trans e2) hk) (fun hy H1 e3 => ?_) (fun hno H1 e3 => ?_)
  · have hlt : k < xs.length := (List.getElem?_eq_some_iff.mp hk).1
    exact hr k x H1 _ rfl ((e1.trans e2).trans e3) hk (by
      have := fst_at (p := p) (lo := 0) (i := k) (n := xs.length) hlt (fun m _ h2 => hp m (by omega)) (by rw [Nat.zero_add]; exact hy)
      rw [Nat.zero_add] at this
      exact this)
  · refine ⟨.inr ⟨_, _, rfl⟩, (e1.trans e2).trans e3, fun m hm => ?_⟩
    by_cases hk' : m = k
    · rw [hk']; exact hno
    · exact hp m (by omega)
/-- 1 <= x <= n -/
theorem ev_chain {x y z : Int} {ta tb tc : TE} (ha : Ev ta σ H (.int x)) (hb : Ev tb σ H (.int y)) (hc : Ev tc σ H (.int z)) : Ev (tChain (rI0 fun i j => .bl (decide (i ≤ j))) (rI0 fun i j => .bl (decide (i ≤ j))) ta tb tc) σ H (.bl (decide (x ≤ y) && decide (y ≤ z))) := fun H1 e Q q =>
  ha H1 e _ fun H2 e2 => hb H2 (e.trans e2) _ fun H3 e3 => ⟨x, y, rfl, rfl, decide (x ≤ y), rfl, by
    cases hd : decide (x ≤ y) with
    | true =>
      show tc σ H3 _
      refine hc H3 ((e.trans e2).trans e3) _ fun H4 e4 => ⟨y, z, rfl, rfl, ?_⟩
      have := q H4 ((e2.trans e3).trans e4)
      rw [hd] at this
      exact this
    | false =>
      show Q (.bl false) H3
      have := q H3 (e2.trans e3)
      rw [hd] at this
      exact this⟩
end
end TC
set_option maxHeartbeats 2000000
/-! Instances: data beside them; calls that may raise; own == by name. -/
namespace TC
open PySem PySem.Spec PyProof.Rows L2 Evl
section
variable {K : PySem.W.Frag} {H H' : Hp} {x C dx : Addr} {fs : List (Str × V)}
theorem sqL_X {a : Addr} {xs : List V} (hx : H x = some (.ins C dx fs)) (e : ExX x H H') (h : SqL K H a xs) : SqL K H' a xs := by
  rcases h with (h | ⟨o, h⟩) | h
  · exact .inl (.inl (e a _ (fun z => by rw [z, hx] at h; cases h) h))
  · exact .inl (.inr ⟨o, e a _ (fun z => by rw [z, hx] at h; cases h) h⟩)
  · exact .inr h
theorem sqT_X {a : Addr} {xs : List V} (hx : H x = some (.ins C dx fs)) (e : ExX x H H') (h : SqT K H a xs) : SqT K H' a xs := by
  rcases h with (h | ⟨o, h⟩) | h
  · exact .inl (.inl (e a _ (fun z => by rw [z, hx] at h; cases h) h))
  · exact .inl (.inr ⟨o, e a _ (fun z => by rw [z, hx] at h; cases h) h⟩)
  · exact .inr h
mutual
theorem Dp.exX (hx : H x = some (.ins C dx fs)) (e : ExX x H H') : ∀ {d : PyData} {v : V}, Dp K H v d → Dp K H' v d
  | _, _, .non => .non
  | _, _, .bl b => .bl b
  | _, _, .int i => .int i
  | _, _, .str z => .str z
  | _, _, .lst h a => .lst (sqL_X hx e h) (DpAll.exX hx e a)
  | _, _, .tup h a => .tup (sqT_X hx e h) (DpAll.exX hx e a)
theorem DpAll.exX (hx : H x = some (.ins C dx fs)) (e : ExX x H H') : ∀ {ds : List PyData} {vs : List V}, DpAll K H vs ds → DpAll K H' vs ds
  | _, _, .nil => .nil
  | _, _, .cons h a => .cons (Dp.exX hx e h) (DpAll.exX hx e a)
end
theorem ex_mk {H1 : Hp} (nx : H1 x = none) (nd : H1 dx = none) (ne : dx ≠ x) : Ex H1 (upd (upd H1 dx (.own x)) x (.ins C dx [])) := (Ex.new nd).trans (Ex.new (by rw [upd_ne (Ne.symm ne)]; exact nx))
theorem atI_int {ns : List Int} {i : Nat} (h : i < ns.length) : atI (ns.map V.int) (i : Int) = some (.int (ns.getD i 0)) := by
  have e : (ns.map V.int)[i]? = some (.int (ns.getD i 0)) := by
    rw [List.getElem?_map, List.getD_eq_getElem?_getD, List.getElem?_eq_getElem h]; rfl
  unfold atI
  rw [List.length_map, ixN_nat h]
  exact e
theorem atI_n {xs : List V} {i : Nat} {v : V} (h : xs[i]? = some v) : atI xs (i : Int) = some v := by
  unfold atI
  rw [ixN_nat (List.getElem?_eq_some_iff.mp h).1]
  exact h
theorem ixN_m1 {n : Nat} (h : 0 < n) : ixN n (-1) = some (n - 1) := by
  unfold ixN
  rw [if_neg (by omega)]
  have e : ((n : Int) + -1).toNat = n - 1 := by omega
  first
    | (rw [if_pos (by omega)]; rw [e])
    | (rw [if_pos (by omega), if_pos (by omega)]; rw [e])
    | (simp; omega)
theorem atI_m1 {xs : List V} {v : V} (h : xs[xs.length - 1]? = some v) : atI xs (-1) = some v := by
  unfold atI
  have hl : 0 < xs.length := by have := (List.getElem?_eq_some_iff.mp h).1; omega
  rw [ixN_m1 hl]
  exact h
end
section
variable {K : PySem.W.Frag} {σ : L2.St} {H : Hp} {ta : TA} {D : Ends} {tz : TS} {sp : Sp} {vs : List V} {E : XK} {te : TE}
theorem q_dropCall (h : EvA ta σ H vs) (k : ∀ H1, Ex H H1 → sp vs H1 (fun _ H2 => tz D σ H2) E) : tSeq (tDrop (tCall sp [] E ta)) tz D σ H := h H (Ex.refl H) _ fun H1 e => by rw [List.append_nil]; exact k H1 e
theorem q_asgCall {i : Nat} (h : EvA ta σ H vs) (k : ∀ H1, Ex H H1 → sp vs H1 (fun v H2 => tz D (σ.set i (some v)) H2) E) : tSeq (tAsg (tCall sp [] E ta) (gName i)) tz D σ H := h H (Ex.refl H) _ fun H1 e => by rw [List.append_nil]; exact k H1 e
theorem s_retCall (h : EvA ta σ H vs) (k : ∀ H1, Ex H H1 → sp vs H1 (fun v H2 => D.rt v H2) E) : tRet (tCall sp [] E ta) D σ H := h H (Ex.refl H) _ fun H1 e => by rw [List.append_nil]; exact k H1 e
theorem ev_isN {x : V} (h : Ev te σ H x) : Ev (tOp (fun x y H Q => y = .non ∧ Q (.bl (decide (x = .non))) H) te (tC .non)) σ H (.bl (decide (x = .non))) := ev_op h ev_c fun H1 e Q q => ⟨rfl, q H1 (Ex.refl H1)⟩
theorem ev_notN {x : V} (h : Ev te σ H x) : Ev (tOp (fun x y H Q => y = .non ∧ Q (.bl (!decide (x = .non))) H) te (tC .non)) σ H (.bl (!decide (x = .non))) := ev_op h ev_c fun H1 e Q q => ⟨rfl, q H1 (Ex.refl H1)⟩
theorem s_raiseEr {C : Addr} {f : Str} {v : V} {W : WX} (h : EvA ta σ H [v]) (k : ∀ H1 d, Ex H H1 → H1 d = some (.xd [(f, v)]) → W (.ref C) (some d) σ H1) : tRaiseEr C f W ta D σ H := h H (Ex.refl H) _ fun H1 e => ⟨v, rfl, fun d hd => k _ d (e.trans (Ex.new hd)) upd_same⟩
end
/-! own == by name -/
structure EqK (P : Program) (w : World) (K : PySem.W.Frag) (mg : Str → Option Value) (base : Heap) (k : Nat) (f : Addr) (ps : List Str) (sp : Sp) : Prop where
  ex : ∃ fd : FuncData, Binds K fd ps [] ∧ FnOk P w K mg base CX0 k f fd ps sp
section
variable {X : Cx} {k j : Nat} {C f : Addr} {ps : List Str} {sp : Sp}
theorem op_eqO (c : EqK X.prog X.w X.K X.mg X.base k f ps sp) (T : EqC X.K C f) (hr : Room j X.A) (hk : k ≤ j) : OpR X (compareOp .Eq) (rOwn X.K C sp E0 false) := by
  obtain ⟨fd, b, F⟩ := c.ex
  exact op_eqOwn F T (hr.mono hk) b (fun _ _ _ _ _ _ _ h => h.elim)
theorem op_neO (c : EqK X.prog X.w X.K X.mg X.base k f ps sp) (T : EqC X.K C f) (hr : Room j X.A) (hk : k + 1 ≤ j) : OpR X (compareOp .NotEq) (rOwn X.K C sp E0 true) := by
  obtain ⟨fd, b, F⟩ := c.ex
  exact op_neOwn F T (hr.mono hk) b (fun _ _ _ _ _ _ _ h => h.elim)
end
theorem pe_gcI {X : Cx} {x : Str} {v : V} {pos : Pos} (hg : Gl X x) (h : ∃ u, X.mg x = some u ∧ RelV v u) (hd : (x == ("__debug__" : Str)) = false := by decide) : PE X (.Name x pos) (tC v) := by
  obtain ⟨u, hm, r⟩ := h
  exact pe_glob hg hm r hd
end TC
set_option maxHeartbeats 2000000
/-! Unpacking, + of lists, shapes of data. -/
namespace TC
open PySem PySem.Spec PyProof.Rows L2 Evl
section
variable {K : PySem.W.Frag} {σ : L2.St} {H : Hp} {ta tb te : TE} {D : Ends} {tz : TS}
theorem q_unp {i j : Nat} {c : Addr} {v w : V} (h : Ev te σ H (.ref c)) (hc : SqT K H c [v, w]) (k : ∀ H1, Ex H H1 → tz D ((σ.set i (some v)).set j (some w)) H1) : tSeq (tAsg te (gTup K 2 (gCons (gName i) (gCons (gName j) gNil)))) tz D σ H :=
  h H (Ex.refl H) _ fun H1 e => ⟨c, _, rfl, ex_t e hc, rfl, _, _, rfl, _, _, rfl, rfl, k H1 e⟩
theorem el_cat {l : Addr} {xs zs : List V} (ha : EvL ta σ H xs) (hb : Ev tb σ H (.ref l)) (hl : H l = some (.lst zs)) (hz : xs.length + zs.length ≤ 100000) : EvL (tOp rCat ta tb) σ H (xs ++ zs) := fun H1 e Q q =>
  ha H1 e _ fun p H2 _ e2 hp => hb H2 (e.trans e2) _ fun H3 e3 => ⟨p, l, xs, zs, rfl, rfl, e3 p _ hp, e3 l _ (e2 l _ (e l _ hl)), sz_of hz, fun r hr => q r _ (fresh_back (e2.trans e3) hr) ((e2.trans e3).trans (Ex.new hr)) upd_same⟩
theorem el_cat2 {l : Addr} {xs zs : List V} (ha : Ev ta σ H (.ref l)) (hb : EvL tb σ H zs) (hl : H l = some (.lst xs)) (hz : xs.length + zs.length ≤ 100000) : EvL (tOp rCat ta tb) σ H (xs ++ zs) := fun H1 e Q q =>
  ha H1 e _ fun H2 e2 => hb H2 (e.trans e2) _ fun p H3 _ e3 hp => ⟨l, p, xs, zs, rfl, rfl, e3 l _ (e2 l _ (e l _ hl)), hp, sz_of hz, fun r hr => q r _ (fresh_back (e2.trans e3) hr) ((e2.trans e3).trans (Ex.new hr)) upd_same⟩
theorem cmul {i j : Int} (h : (-(2 ^ 60) < i ∧ i < 2 ^ 60) ∨ (-(2 ^ 60) < j ∧ j < 2 ^ 60)) : CMul i j := by
  rcases h with h | h
  · exact .inl ⟨by omega, by omega⟩
  · exact .inr ⟨by omega, by omega⟩
/-! shapes -/
theorem canLay_ints : ∀ ns : List Int, PyData.canLayAll0 (ns.map PyData.int) = true
  | [] => by simp [PyData.canLayAll0]
  | n :: r => by rw [List.map_cons]; simp [PyData.canLayAll0, PyData.canLay0, canLay_ints r]
theorem depth_ints : ∀ ns : List Int, PyData.depthAll (ns.map PyData.int) ≤ 1
  | [] => by simp [PyData.depthAll]
  | n :: r => by have := depth_ints r; rw [List.map_cons]; simp [PyData.depthAll, PyData.depth]; omega
theorem shaped_seq {b : Bool} {ds : List PyData} (h1 : PyData.canLayAll0 ds = true) (h2 : PyData.depthAll ds ≤ 60) : SeqAt.shaped (seqD b ds) = true := by
  cases b
  · show (PyData.canLay0 (.list ds) && decide (PyData.depth (.list ds) ≤ 64)) = true
    simp [PyData.canLay0, h1, PyData.depth]; omega
  · show (PyData.canLay0 (.tuple ds) && decide (PyData.depth (.tuple ds) ≤ 64)) = true
    simp [PyData.canLay0, h1, PyData.depth]; omega
theorem shaped_ints {b : Bool} {ns : List Int} : SeqAt.shaped (seqD b (ns.map PyData.int)) = true := shaped_seq (canLay_ints ns) (Nat.le_trans (depth_ints ns) (by decide))
theorem eqvAll_ints : ∀ ns ms : List Int, PyData.eqvAll (ns.map PyData.int) (ms.map PyData.int) = decide (ns = ms)
  | [], [] => by simp [PyData.eqvAll]
  | [], m :: ms => by simp [PyData.eqvAll]
  | n :: ns, [] => by simp [PyData.eqvAll]
  | n :: ns, m :: ms => by
    rw [List.map_cons, List.map_cons]
    simp only [PyData.eqvAll, PyData.eqv]
    rw [eqvAll_ints ns ms]
    by_cases h1 : n = m
    · subst h1
      by_cases h2 : ns = ms
      · subst h2; simp
      · simp [h2]
    · simp [h1]
theorem eqv_ints {b : Bool} {ns ms : List Int} : PyData.eqv (seqD b (ns.map PyData.int)) (seqD b (ms.map PyData.int)) = decide (ns = ms) := by
  rw [← eqvAll_ints]
  cases b <;> simp [seqD, PyData.eqv]
/-! pairs -/
def prD (p : Int × Int) : PyData := .tuple [.int p.1, .int p.2]
theorem pair_inv {x : V} {p : Int × Int} (h : Dp K H x (prD p)) : ∃ c, x = .ref c ∧ SqT K H c [.int p.1, .int p.2] := by
  obtain ⟨c, xs, rfl, sq, hx⟩ := Dp.seq_inv (b := true) h
  have hxs : xs = [.int p.1, .int p.2] := by
    cases hx with
    | cons h1 h2 =>
      cases h1
      cases h2 with
      | cons h3 h4 => cases h3; cases h4; rfl
  exact ⟨c, rfl, hxs ▸ sq⟩
theorem pair_of {c : Addr} {p : Int × Int} (h : SqT K H c [.int p.1, .int p.2]) : Dp K H (.ref c) (prD p) := Dp.tup h (.cons (.int _) (.cons (.int _) .nil))
def cabD (b : Bool) (ps : List (Int × Int)) : PyData := seqD b (ps.map prD)
theorem cab_inv {b : Bool} {v : V} {ps : List (Int × Int)} (h : Dp K H v (cabD b ps)) : ∃ a xs, v = .ref a ∧ SqB K H b a xs ∧ DpAll K H xs (ps.map prD) ∧ xs.length = ps.length := by
  obtain ⟨a, xs, e, sq, hx⟩ := Dp.seq_inv h
  exact ⟨a, xs, e, sq, hx, by rw [DpAll.length hx, List.length_map]⟩
theorem cab_at {xs : List V} {ps : List (Int × Int)} (h : DpAll K H xs (ps.map prD)) {k : Nat} {x : V} (hx : xs[k]? = some x) : ∃ p c, ps[k]? = some p ∧ x = .ref c ∧ SqT K H c [.int p.1, .int p.2] := by
  obtain ⟨d, h1, h2⟩ := DpAll.get h hx
  rw [List.getElem?_map] at h1
  cases hp : ps[k]? with
  | none => rw [hp] at h1; cases h1
  | some p =>
    rw [hp] at h1
    cases h1
    obtain ⟨c, e, hc⟩ := pair_inv h2
    exact ⟨p, c, rfl, e, hc⟩
theorem cab_at' {xs : List V} {ps : List (Int × Int)} (h : DpAll K H xs (ps.map prD)) {k : Nat} (hk : k < ps.length) : ∃ c, xs[k]? = some (.ref c) ∧ SqT K H c [.int (ps.getD k (0, 0)).1, .int (ps.getD k (0, 0)).2] := by
  have hl : xs.length = ps.length := by rw [DpAll.length h, List.length_map]
  have hx : xs[k]? = some xs[k] := List.getElem?_eq_getElem (by omega)
  obtain ⟨p, c, h1, h2, h3⟩ := cab_at h hx
  have e : ps.getD k (0, 0) = p := by rw [List.getD_eq_getElem?_getD, h1]; rfl
  rw [e]
  exact ⟨c, by rw [hx, h2], h3⟩
theorem canLay_pairs : ∀ ps : List (Int × Int), PyData.canLayAll0 (ps.map prD) = true
  | [] => by simp [PyData.canLayAll0]
  | p :: r => by rw [List.map_cons]; simp [PyData.canLayAll0, prD, PyData.canLay0, canLay_pairs r]
theorem depth_pairs : ∀ ps : List (Int × Int), PyData.depthAll (ps.map prD) ≤ 3
  | [] => by simp [PyData.depthAll]
  | p :: r => by have := depth_pairs r; rw [List.map_cons]; simp [PyData.depthAll, prD, PyData.depth]; omega
theorem shaped_cab {b : Bool} {ps : List (Int × Int)} : SeqAt.shaped (cabD b ps) = true := shaped_seq (canLay_pairs ps) (Nat.le_trans (depth_pairs ps) (by decide))
theorem eqvAll_pairs : ∀ ns ms : List (Int × Int), PyData.eqvAll (ns.map prD) (ms.map prD) = decide (ns = ms)
  | [], [] => by simp [PyData.eqvAll]
  | [], m :: ms => by simp [PyData.eqvAll]
  | n :: ns, [] => by simp [PyData.eqvAll]
  | (n1, n2) :: ns, (m1, m2) :: ms => by
    rw [List.map_cons, List.map_cons]
    simp only [PyData.eqvAll]
    rw [eqvAll_pairs ns ms]
    simp only [prD, PyData.eqv, PyData.eqvAll]
    by_cases h2 : ns = ms
    · subst h2
      by_cases h3 : n1 = m1
      · subst h3
        by_cases h4 : n2 = m2
        · subst h4; simp
        · simp [h4]
      · simp [h3]
    · simp [h2]
theorem eqv_cab {b : Bool} {ns ms : List (Int × Int)} : PyData.eqv (cabD b ns) (cabD b ms) = decide (ns = ms) := by
  rw [← eqvAll_pairs]
  cases b <;> simp [cabD, seqD, PyData.eqv]
end
/-! rules with the written part named -/
section
variable {X : Cx} {K : PySem.W.Frag}
theorem call_lenK (h : X.K = K) : CallR X (.builtin "len") (rLenA K) := by subst h; exact call_len_seq
theorem call_isi1 (h : X.K = K) : CallR X (.builtin "isinstance") (rIsi K) := by subst h; exact call_isi
theorem call_isi2 (h : X.K = K) : CallR X (.builtin "isinstance") (rIsiT K) := by subst h; exact call_isiT
theorem ix_seqK (h : X.K = K) : IxR X (rIxA K) := by subst h; exact ix_seq
end
end TC
set_option maxHeartbeats 2000000
/-! The pen: dicts that change, data beside them; displays of data. -/
namespace TC
open PySem PySem.Spec PyProof.Rows L2 Evl
/-- neither a list nor a tuple nor locked -/
def NotSq : HO → Prop
  | .lst _ => False
  | .tup _ => False
  | .frz _ _ => False
  | _ => True
section
variable {K : PySem.W.Frag} {H H' : Hp} {x : Addr} {o : HO}
theorem sqL_N {a : Addr} {xs : List V} (hx : H x = some o) (n : NotSq o) (e : ExX x H H') (h : SqL K H a xs) : SqL K H' a xs := by
  rcases h with (h | ⟨u, h⟩) | h
  · exact .inl (.inl (e a _ (fun z => by rw [z, hx] at h; cases h; exact n) h))
  · exact .inl (.inr ⟨u, e a _ (fun z => by rw [z, hx] at h; cases h; exact n) h⟩)
  · exact .inr h
theorem sqT_N {a : Addr} {xs : List V} (hx : H x = some o) (n : NotSq o) (e : ExX x H H') (h : SqT K H a xs) : SqT K H' a xs := by
  rcases h with (h | ⟨u, h⟩) | h
  · exact .inl (.inl (e a _ (fun z => by rw [z, hx] at h; cases h; exact n) h))
  · exact .inl (.inr ⟨u, e a _ (fun z => by rw [z, hx] at h; cases h; exact n) h⟩)
  · exact .inr h
theorem sqB_N {b : Bool} {a : Addr} {xs : List V} (hx : H x = some o) (n : NotSq o) (e : ExX x H H') (h : SqB K H b a xs) : SqB K H' b a xs := by
  cases b with
  | true => exact sqT_N hx n e h
  | false => exact sqL_N hx n e h
mutual
theorem Dp.exN (hx : H x = some o) (n : NotSq o) (e : ExX x H H') : ∀ {d : PyData} {v : V}, Dp K H v d → Dp K H' v d
  | _, _, .non => .non
  | _, _, .bl b => .bl b
  | _, _, .int i => .int i
  | _, _, .str z => .str z
  | _, _, .lst h a => .lst (sqL_N hx n e h) (DpAll.exN hx n e a)
  | _, _, .tup h a => .tup (sqT_N hx n e h) (DpAll.exN hx n e a)
theorem DpAll.exN (hx : H x = some o) (n : NotSq o) (e : ExX x H H') : ∀ {ds : List PyData} {vs : List V}, DpAll K H vs ds → DpAll K H' vs ds
  | _, _, .nil => .nil
  | _, _, .cons h a => .cons (Dp.exN hx n e h) (DpAll.exN hx n e a)
end
end
section
variable {K : PySem.W.Frag} {σ : L2.St} {H : Hp} {te tx td ty tv : TE} {ta tr : TA} {D : Ends} {tz : TS} {v : V} {P : V → Hp → Prop}
theorem ev_dget {p : Addr} {kvs : List (Key × V)} {k : Str} (hd : Ev td σ H (.ref p)) (hy : Ev ty σ H (.str k)) (hp : H p = some (.dK kvs)) (hv : valV kvs (.inr k) = some v) : Ev (tDGet td ty) σ H v := fun H1 e Q q =>
  hd H1 e _ fun H2 e2 => hy H2 (e.trans e2) _ fun H3 e3 => ⟨p, v, rfl, .inl ⟨kvs, .inr k, .inl ((e.trans (e2.trans e3)) _ _ hp), rfl, hv.symm⟩, q H3 (e2.trans e3)⟩
theorem s_dput {p : Addr} {kvs : List (Key × V)} {k : Str} (h : Ev tv σ H v) (hd : Ev td σ H (.ref p)) (hy : Ev ty σ H (.str k)) (hp : H p = some (.dK kvs)) (hl : kvs.length < 1000) (c : ∀ H1, Ex H H1 → D.nx σ (upd H1 p (.dK (putK kvs (.inr k) v)))) : sDPut td ty tv D σ H :=
  h H (Ex.refl H) _ fun H1 e1 => hd H1 e1 _ fun H2 e2 => hy H2 (e1.trans e2) _ fun H3 e3 => ⟨p, _, rfl, .inl ⟨kvs, .inr k, (e1.trans (e2.trans e3)) _ _ hp, rfl, Nat.lt_of_lt_of_le hl (by decide), rfl⟩, c H3 (e1.trans (e2.trans e3))⟩
theorem q_dput {p : Addr} {kvs : List (Key × V)} {k : Str} (h : Ev tv σ H v) (hd : Ev td σ H (.ref p)) (hy : Ev ty σ H (.str k)) (hp : H p = some (.dK kvs)) (hl : kvs.length < 1000) (c : ∀ H1, Ex H H1 → tz D σ (upd H1 p (.dK (putK kvs (.inr k) v)))) : tSeq (sDPut td ty tv) tz D σ H :=
  s_dput (D := { D with nx := tz D }) h hd hy hp hl c
/-- displays of data -/
def EvAD (K : PySem.W.Frag) (ta : TA) (σ : L2.St) (H : Hp) (ds : List PyData) : Prop := EvAP ta σ H (fun vs H1 => DpAll K H1 vs ds)
theorem ead_nil : EvAD K tNil σ H [] := fun H1 e Q q => q [] H1 (Ex.refl H1) .nil
theorem ead_cons {d : PyData} {ds : List PyData} (h : EvP te σ H (fun v H1 => Dp K H1 v d)) (hr : EvAD K tr σ H ds) : EvAD K (tCons te tr) σ H (d :: ds) := fun H1 e Q q =>
  h H1 e _ fun v H2 e2 p => hr H2 (e.trans e2) _ fun vs H3 e3 ps => q _ H3 (e2.trans e3) (.cons (Dp.ex e3 p) ps)
theorem epD_tup {ds : List PyData} (h : EvAD K ta σ H ds) (hl : ds.length ≤ 100000) : EvP (tTup ta) σ H (fun v H1 => Dp K H1 v (.tuple ds)) := fun H1 e Q q =>
  h H1 e _ fun vs H2 e2 p => ⟨sz_of (by rw [DpAll.length p]; exact hl), fun a ha => q _ _ (e2.trans (Ex.new ha)) (.tup (st_of upd_same) (DpAll.ex (Ex.new ha) p))⟩
theorem epD_lst {ds : List PyData} (h : EvAD K ta σ H ds) (hl : ds.length ≤ 100000) : EvP (tLst ta) σ H (fun v H1 => Dp K H1 v (.list ds)) := fun H1 e Q q =>
  h H1 e _ fun vs H2 e2 p => ⟨sz_of (by rw [DpAll.length p]; exact hl), fun a ha => q _ _ (e2.trans (Ex.new ha)) (.lst (sq_of upd_same) (DpAll.ex (Ex.new ha) p))⟩
theorem epD_int {i : Int} : EvP (tC (.int i)) σ H (fun v H1 => Dp K H1 v (.int i)) := fun H1 e Q q => q _ H1 (Ex.refl H1) (.int i)
theorem epD_str {i : Str} : EvP (tC (.str i)) σ H (fun v H1 => Dp K H1 v (.str i)) := fun H1 e Q q => q _ H1 (Ex.refl H1) (.str i)
theorem epD_bl {i : Bool} : EvP (tC (.bl i)) σ H (fun v H1 => Dp K H1 v (.bool i)) := fun H1 e Q q => q _ H1 (Ex.refl H1) (.bl i)
theorem epD_non : EvP (tC .non) σ H (fun v H1 => Dp K H1 v .none) := fun H1 e Q q => q _ H1 (Ex.refl H1) .non
theorem epD_var {i : Nat} {d : PyData} (h : σ[i]? = some (some v)) (hd : Dp K H v d) : EvP (tVar i) σ H (fun v H1 => Dp K H1 v d) := (Ev.p (ev_var h)).imp fun w H1 e ew => ew ▸ Dp.ex e hd
/-- arguments of which each is told by a word of its place -/
def AllP (Ps : List (V → Hp → Prop)) (vs : List V) (H : Hp) : Prop := vs.length = Ps.length ∧ ∀ (i : Nat) v P, vs[i]? = some v → Ps[i]? = some P → P v H
theorem AllP.nil : AllP [] [] H := ⟨rfl, fun i v P h => by simp at h⟩
theorem AllP.cons {P : V → Hp → Prop} {Ps : List (V → Hp → Prop)} {vs : List V} (h : P v H) (hr : AllP Ps vs H) : AllP (P :: Ps) (v :: vs) H := ⟨by simp [hr.1], fun i w R h1 h2 => by
  cases i with
  | zero => simp at h1 h2; subst h1 h2; exact h
  | succ i => simp at h1 h2; exact hr.2 i w R h1 h2⟩
def AllM (Ps : List (V → Hp → Prop)) : Prop := ∀ P ∈ Ps, MonP P
theorem AllP.ex {Ps : List (V → Hp → Prop)} (m : AllM Ps) {H H' : Hp} {vs : List V} (e : Ex H H') (h : AllP Ps vs H) : AllP Ps vs H' := ⟨h.1, fun i v P h1 h2 => m P (List.mem_of_getElem? h2) v H H' e (h.2 i v P h1 h2)⟩
theorem eal_nil : EvAP tNil σ H (AllP []) := fun H1 e Q q => q [] H1 (Ex.refl H1) AllP.nil
theorem eal_cons {P : V → Hp → Prop} {Ps : List (V → Hp → Prop)} (m : MonP P) (h : EvP te σ H P) (hr : EvAP tr σ H (AllP Ps)) : EvAP (tCons te tr) σ H (AllP (P :: Ps)) := fun H1 e Q q =>
  h H1 e _ fun v H2 e2 p => hr H2 (e.trans e2) _ fun vs H3 e3 ps => q _ H3 (e2.trans e3) (AllP.cons (m v _ _ e3 p) ps)
end
end TC
set_option maxHeartbeats 2000000
/-! A comprehension that calls lambdas: the greater base; a judgement in which only the tables change. -/
namespace TC
open PySem PySem.Spec PyProof.Rows L2 LamX Evl
/-- what is known of the greater base -/
structure BaseOk (X : Cx) (σ : L2.St) (B : Heap) : Prop where
  mod : L2.Mod X.K X.mg B
  val : ∀ (i : Nat) x v, X.N[i]? = some x → σ[i]? = some (some v) → X.env.scope.names.lookup x = some .cell → ∃ c u, X.env.cells.lookup x = some c ∧ B.IsCell c (some u) ∧ RelV v u
theorem baseOk_of {X : Cx} {pins : List (Addr × Obj)} {σ : L2.St} {H : Hp} {s : Shared} {B : Heap} (I : Inv X pins σ H s) (b : Based X s H B) : BaseOk X σ B := by
  refine ⟨b.mod, fun i x v h1 h2 h3 => ?_⟩
  obtain ⟨m, hn, hl⟩ := I.loc
  obtain ⟨u, r, lk⟩ := hl i x v h1 h2 (.inr (.inl h3))
  rcases lk with ⟨z, _⟩ | ⟨_, c, hc, hi⟩
  · have z' : X.env.scope.names.lookup x = some .local := z
    rw [h3] at z'; cases z'
  · exact ⟨c, u, hc, b.cell x c _ hc hi, r⟩
theorem cellsIn1 {B : Heap} {scope : Scope} {x : Str} {c : Addr} {u : Value} {v : V} (h : B.IsCell c (some u)) (r : RelV v u) (hx : ∀ y, scope.names.lookup y = some .free → y = x) : CellsIn B [(x, c)] scope [x] [some v] := by
  have look : ∀ y d, List.lookup y [(x, c)] = some d → y = x ∧ d = c := fun y d e => by
    rw [List.lookup_cons] at e
    cases q : (y == x) with
    | true => rw [q] at e; cases e; exact ⟨eq_of_beq q, rfl⟩
    | false => rw [q] at e; cases e
  have at_ : List.lookup x [(x, c)] = some c := by rw [List.lookup_cons]; simp
  refine ⟨fun y z d h1 h2 => by rw [(look y d h1).1, (look z d h2).1], fun y hy => ⟨c, by rw [hx y hy]; exact at_⟩, fun y d h1 => ⟨some u, by rw [(look y d h1).2]; exact h⟩, fun i y v' e1 e2 _ => ?_, rfl⟩
  cases i with
  | zero => cases e1; cases e2; exact ⟨c, u, at_, h, r⟩
  | succ i => cases e1
section
variable {X : Cx} {pins : List (Addr × Obj)} {σ : L2.St} {H : Hp} {s : Shared} {B : Heap} {k : Nat} {f : Addr} {fd : FuncData} {ps : List Str} {sp : Sp} {x : Str} {p pos : Pos} {e : Expr} {es : List Expr} {t : TA} {scope : Scope} {cenv : Env} {fp : List Addr}
/-- in a comprehension: a call of a def that stands over the greater base -/
theorem pe_callGB (b : Based X s H B) (hfp : ∀ a ∈ fp, FpOk X pins H a) (F : FnG X.prog X.w X.K X.mg B CX0 k f fd ps sp) (hr : Room k X.A) (hgd : X.A.guards = some []) (hg : Gl (X.blk s H scope cenv fp) x) (hm : X.mg x = some (.ref f)) (hk : PySem.W.keepIn X.K (.ref f) = true) (hb : Binds X.K fd ps []) (ha : PA (X.blk s H scope cenv fp) (e :: es) t) (hdb : (x == ("__debug__" : Str)) = false := by decide)
    (he : starEach (e :: es) (X.blk s H scope cenv fp).env = (false, eval e (X.blk s H scope cenv fp).env) :: starEach es (X.blk s H scope cenv fp).env := by rfl) (hpl : (backTo pos (starEach es (X.blk s H scope cenv fp).env)).any (·.1) = false := by rfl) : PE (X.blk s H scope cenv fp) (.Call (.Name x p) (e :: es) [] pos) (tCall sp [] E0 t) := by
  refine ⟨fun pins1 s1 σ1 H1 Q I h => ?_⟩
  refine wpAny_Call_Name_kw (ld_glob I hg hm ?_ hdb)
  refine PySem.W.callWith_K (h₀ := (X.blk s H scope cenv fp).base) I.ok.mod.kin hk (thn (ha.run pos pins1 s1 σ1 H1 _ I h) fun us s2 ⟨vs, H2, I2, r, q⟩ => ⟨I2.kIn, ?_⟩) he hpl
  have q' : sp vs H2 Q E0 := by
    have q2 : sp (vs ++ []) H2 Q E0 := q
    rw [List.append_nil] at q2
    exact q2
  have hl : (us ++ []).length = ps.length := by rw [List.append_nil, ← r.length]; exact F.len _ _ _ _ q'
  have hbind := hb s2 us I2.kIn hl
  rw [List.append_nil] at hbind
  refine wpAny_call (codeAny_mono (F.run X.A X.stack s2 H2 ⟨us, []⟩ us vs Q E0 hr hgd (b.env0 hfp I2) hbind r q') fun r' s' q => ?_)
  cases r' with
  | error er => exact False.elim q
  | ok fl =>
    cases fl with
    | ret u => exact I2.after q
    | next => exact False.elim q
    | brk => exact False.elim q
    | cont => exact False.elim q
end
/-! ### only tables change -/
section
variable {TT : List (Addr × Str)} {K : PySem.W.Frag} {σ : L2.St} {H H' : Hp} {te tx : TE} {ta tr : TA} {P R : V → Hp → Prop}
def noTbl (H : Hp) : Hp := fun a => match H a with
  | some (.tbl _) => none
  | o => o
theorem noTbl_of {a : Addr} {o : HO} (h : H a = some o) (n : ∀ ps, o ≠ .tbl ps) : noTbl H a = some o := by
  unfold noTbl
  rw [h]
  cases o <;> first | rfl | exact absurd rfl (n _)
theorem of_noTbl {a : Addr} {o : HO} (h : noTbl H a = some o) : H a = some o ∧ ∀ ps, o ≠ .tbl ps := by
  unfold noTbl at h
  cases q : H a with
  | none => rw [q] at h; cases h
  | some u =>
    rw [q] at h
    cases u <;> first | (cases h; exact ⟨rfl, fun ps z => nomatch z⟩) | cases h
theorem ExtN.ex (e : ExtN H H') : Ex (noTbl H) H' := fun a o h => let ⟨h1, h2⟩ := of_noTbl h; e a o h1 h2
theorem Ex.extN (e : Ex H H') : ExtN H H' := fun a o h _ => e a o h
def MonN (P : V → Hp → Prop) : Prop := ∀ v H H', ExtN H H' → P v H → P v H'
def EvN (TT : List (Addr × Str)) (te : TE) (σ : L2.St) (H : Hp) (P : V → Hp → Prop) : Prop := ∀ H1, ExtN H H1 → Tabs TT H1 → ∀ Q : VK, (∀ v H2, ExtN H1 H2 → Tabs TT H2 → P v H2 → Q v H2) → te σ H1 Q
def EvAN (TT : List (Addr × Str)) (ta : TA) (σ : L2.St) (H : Hp) (P : List V → Hp → Prop) : Prop := ∀ H1, ExtN H H1 → Tabs TT H1 → ∀ Q : List V → Hp → Prop, (∀ vs H2, ExtN H1 H2 → Tabs TT H2 → P vs H2 → Q vs H2) → ta σ H1 Q
theorem EvP.n (h : EvP te σ (noTbl H) P) : EvN TT te σ H P := fun H1 e t Q q => h H1 (ExtN.ex e) Q fun v H2 e2 p => q v H2 (Ex.extN e2) (t.ext e2) p
def AllN (Ps : List (V → Hp → Prop)) (vs : List V) (H : Hp) : Prop := vs.length = Ps.length ∧ ∀ (i : Nat) v P, vs[i]? = some v → Ps[i]? = some P → P v H
theorem ean_nil : EvAN TT tNil σ H (AllP []) := fun H1 e t Q q => q [] H1 (ExtN.refl H1) t AllP.nil
theorem ean_cons {Ps : List (V → Hp → Prop)} (m : MonN P) (h : EvN TT te σ H P) (hr : EvAN TT tr σ H (AllP Ps)) : EvAN TT (tCons te tr) σ H (AllP (P :: Ps)) := fun H1 e t Q q =>
  h H1 e t _ fun v H2 e2 t2 p => hr H2 (e.trans e2) t2 _ fun vs H3 e3 t3 ps => q _ H3 (e2.trans e3) t3 (AllP.cons (m v _ _ e3 p) ps)
theorem en_tup {Ps : List (V → Hp → Prop)} (m : ∀ P ∈ Ps, MonN P) (h : EvAN TT ta σ H (AllP Ps)) (hl : Ps.length ≤ 100000) : EvN TT (tTup ta) σ H (fun v H1 => ∃ a vs, v = .ref a ∧ H1 a = some (.tup vs) ∧ AllP Ps vs H1) := fun H1 e t Q q =>
  h H1 e t _ fun vs H2 e2 t2 p => ⟨sz_of (by rw [p.1]; exact hl), fun a ha => q _ _ (e2.trans (Ex.extN (Ex.new ha))) (t2.ext (Ex.new ha)) ⟨a, vs, rfl, upd_same, p.1, fun i v P h1 h2 => m P (List.mem_of_getElem? h2) v _ _ (Ex.extN (Ex.new ha)) (p.2 i v P h1 h2)⟩⟩
theorem en_lst {Ps : List (V → Hp → Prop)} (m : ∀ P ∈ Ps, MonN P) (h : EvAN TT ta σ H (AllP Ps)) (hl : Ps.length ≤ 100000) : EvN TT (tLst ta) σ H (fun v H1 => ∃ a vs, v = .ref a ∧ H1 a = some (.lst vs) ∧ AllP Ps vs H1) := fun H1 e t Q q =>
  h H1 e t _ fun vs H2 e2 t2 p => ⟨sz_of (by rw [p.1]; exact hl), fun a ha => q _ _ (e2.trans (Ex.extN (Ex.new ha))) (t2.ext (Ex.new ha)) ⟨a, vs, rfl, upd_same, p.1, fun i v P h1 h2 => m P (List.mem_of_getElem? h2) v _ _ (Ex.extN (Ex.new ha)) (p.2 i v P h1 h2)⟩⟩
/-- the word of a lambda -/
def LamW (q : Str) (params : Arguments) (body : Expr) (scope : Scope) (cl : List (Str × Addr)) : V → Hp → Prop := fun v H => ∃ f c, v = .ref f ∧ H f = some (LamO f q params body scope cl c) ∧ H c = some (CodeO c q)
theorem lamO_ne {f : Addr} {q : Str} {params : Arguments} {body : Expr} {scope : Scope} {cl : List (Str × Addr)} {c : Addr} : ∀ ps, LamO f q params body scope cl c ≠ .tbl ps := fun ps z => nomatch z
theorem monN_lam {q : Str} {params : Arguments} {body : Expr} {scope : Scope} {cl : List (Str × Addr)} : MonN (LamW q params body scope cl) := fun v H H' e ⟨f, c, h1, h2, h3⟩ => ⟨f, c, h1, e _ _ h2 lamO_ne, e _ _ h3 codeO_ne⟩
theorem en_lam {q : Str} {params : Arguments} {body : Expr} {scope : Scope} {cl : List (Str × Addr)} : EvN TT (tLamb TT q params body scope cl) σ H (LamW q params body scope cl) := fun H1 e t Q q' =>
  ⟨t, fun f c H2 e2 nf t2 hc => q' _ _ (e2.trans (Ex.extN (Ex.new nf))) (t2.ext (Ex.new nf)) ⟨f, c, rfl, upd_same, (Ex.new nf) _ _ hc⟩⟩
theorem MonN.of (h : ∀ v H H', Ex (noTbl H) H' → P v H → P v H') : MonN P := fun v H H' e p => h v H H' (ExtN.ex e) p
theorem sqL_tbl {a : Addr} {xs : List V} (h : SqL K H a xs) : SqL K (noTbl H) a xs := by
  rcases h with (h | ⟨o, h⟩) | h
  · exact .inl (.inl (noTbl_of h (fun ps z => nomatch z)))
  · exact .inl (.inr ⟨o, noTbl_of h (fun ps z => nomatch z)⟩)
  · exact .inr h
theorem sqT_tbl {a : Addr} {xs : List V} (h : SqT K H a xs) : SqT K (noTbl H) a xs := by
  rcases h with (h | ⟨o, h⟩) | h
  · exact .inl (.inl (noTbl_of h (fun ps z => nomatch z)))
  · exact .inl (.inr ⟨o, noTbl_of h (fun ps z => nomatch z)⟩)
  · exact .inr h
mutual
theorem Dp.tbl : ∀ {d : PyData} {v : V}, Dp K H v d → Dp K (noTbl H) v d
  | _, _, .non => .non
  | _, _, .bl b => .bl b
  | _, _, .int i => .int i
  | _, _, .str z => .str z
  | _, _, .lst h a => .lst (sqL_tbl h) (DpAll.tbl a)
  | _, _, .tup h a => .tup (sqT_tbl h) (DpAll.tbl a)
theorem DpAll.tbl : ∀ {ds : List PyData} {vs : List V}, DpAll K H vs ds → DpAll K (noTbl H) vs ds
  | _, _, .nil => .nil
  | _, _, .cons h a => .cons (Dp.tbl h) (DpAll.tbl a)
end
theorem monN_D {d : PyData} : MonN (fun v H => Dp K H v d) := .of fun v H H' e h => Dp.ex e (Dp.tbl h)
end
end TC
set_option maxHeartbeats 2000000
/-! The end of a law whose def has one table of code objects, where no repr is under way. -/
namespace TC
open PySem PySem.Spec PyProof.Rows L2 LamX
section
variable {P : Program} {w : World} {K : PySem.W.Frag} {mg mb : Str → Option Value} {CX : CXT} {k : Nat} {fa a c T : Addr} {fd : FuncData} {x : Str} {sp : Sp} {s₁ : Shared} {vs : List Value} {ns : List Int}
/-- what is asked of the abstract heap at the law's call: its table, the script, nothing else -/
structure Ready (K : PySem.W.Frag) (P : Program) (w : World) (a T : Addr) (ns : List Int) (h : Heap) (H : Hp) : Prop where
  tab : H T = some (.tbl #[])
  scr : SqL K H a (ns.map V.int)
  ok : HOk P w H h
  few : ∀ b, H b ≠ none → b = a ∨ b = T
  kind : ∀ b, H b = none ∨ b = T ∨ ∃ o xs, H b = some (.frz o (.lst xs))
  free : H a ≠ none → K.lookup a = none
theorem ready_of (KX : K.In s₁.heap) (hT : s₁.heap.get? T = some { cls := .none, data := .fields #[] }) (ha : s₁.heap.get? a = some { cls := .type "list", data := .seq vs.toArray }) (hi : IntsAre vs ns) (hl : ns.length ≤ sizeLine) : ∃ H, Ready K P w a T ns s₁.heap H := by
  have rv := vals_ints hi
  have lenV := hi.length
  have aT : a ≠ T := fun z => by
    rw [z, hT] at ha
    have z' := congrArg Obj.data (Option.some.inj ha)
    cases z'
  cases hk : K.lookup a with
  | some o =>
    have e := KX a o hk
    rw [ha] at e
    cases e
    refine ⟨fun b => if b = T then some (.tbl #[]) else none, if_pos rfl, .inr ⟨_, vs.toArray, _, hk, rfl, rfl, rfl, by rw [List.size_toArray, lenV]; exact hl, by simpa using rv⟩, fun b u z => ?_, fun b z => ?_, fun b => ?_, fun z => absurd (if_neg aT) z⟩
    · by_cases hb : b = T
      · cases (if_pos hb).symm.trans z
        rw [hb]; exact hT
      · cases (if_neg hb).symm.trans z
    · by_cases hb : b = T
      · exact .inr hb
      · exact absurd (if_neg hb) z
    · by_cases hb : b = T
      · exact .inr (.inl hb)
      · exact .inl (if_neg hb)
  | none =>
    refine ⟨fun b => if b = a then some (.frz { cls := .type "list", data := .seq vs.toArray } (.lst (ns.map V.int))) else if b = T then some (.tbl #[]) else none, (if_neg (Ne.symm aT)).trans (if_pos rfl), .inl (.inr ⟨{ cls := .type "list", data := .seq vs.toArray }, if_pos rfl⟩), fun b u z => ?_, fun b z => ?_, fun b => ?_, fun _ => hk⟩
    · by_cases hb : b = a
      · cases (if_pos hb).symm.trans z
        rw [hb]
        exact ⟨ha, by rw [List.length_map]; exact hl, vs, _, rv, ha⟩
      · have z1 := (if_neg hb).symm.trans z
        by_cases hb2 : b = T
        · cases (if_pos hb2).symm.trans z1
          rw [hb2]; exact hT
        · cases (if_neg hb2).symm.trans z1
    · by_cases hb : b = a
      · exact .inl hb
      · by_cases hb2 : b = T
        · exact .inr hb2
        · exact absurd ((if_neg hb).trans (if_neg hb2)) z
    · by_cases hb : b = a
      · exact .inr (.inr ⟨_, _, if_pos hb⟩)
      · by_cases hb2 : b = T
        · exact .inr (.inl hb2)
        · exact .inl ((if_neg hb).trans (if_neg hb2))
theorem law_callG (KX : K.In s₁.heap) (hns : s₁.heap.Ns mainGlobals mg) (hb : s₁.heap.Ns builtinsNs mb) (hbb : ∀ x : Str, x ≠ "__name__" → mb x = bootBuiltins x) (hlim : s₁.heap.NoLimit) (hg : s₁.gens = #[])
    (hT : s₁.heap.get? T = some { cls := .none, data := .fields #[] }) (nT : K.lookup T = none) (C : PySem.W.CodeHd s₁.heap c T)
    (hbm : ∃ (bm : Addr) (ob : Obj), mg "__builtins__" = some (.ref bm) ∧ bm ≠ builtinsNs ∧ s₁.heap.get? bm = some ob ∧ ob.cls = .type "module" ∧ ob.dict = some builtinsNs ∧ ob.data = .plain)
    (ha : s₁.heap.get? a = some { cls := .type "list", data := .seq vs.toArray }) (hi : IntsAre vs ns) (hl : ns.length ≤ sizeLine) (hr : Room k callerA)
    (F : ∀ base : Heap, K.In base → base.Ns mainGlobals mg → TabB base mg c T → FnG P w K mg base CX k fa fd [x] sp) (hbind : ∀ (s : Shared) (u : Value), BindsTo s fd ⟨[u], []⟩ [(x, u)])
    (hsp : ∀ H : Hp, H T = some (.tbl #[]) → SqL K H a (ns.map V.int) → sp [.ref a] H (fun v _ => v = .bl true) fun _ _ _ => False)
    (hCX : ∀ H e s', CX [] H s₁ (fun _ _ _ => False) e s' → False) :
    codeAny (model P w) callerA (.call (.ref fa) ⟨[.ref a], []⟩) (fun r s' => r = .ok (.ret (.bool true)) ∧ OldK s₁.heap s'.heap ∧ s'.os = s₁.os ∧ AllBare s'.gens) s₁ := by
  obtain ⟨H, R⟩ := ready_of (P := P) (w := w) KX hT ha hi hl
  have put : ∀ {b : Addr} {o : Obj}, s₁.heap.get? b = some o → H b = none → (hidT s₁.heap H).get? b = some o := fun e n => hidT_get e n
  -- an object that is neither the script nor the table
  have off : ∀ {b : Addr} {o : Obj}, s₁.heap.get? b = some o → (∀ vs n, o.data ≠ .seq vs n) → o.data ≠ .fields #[] → H b = none := fun {b o} e h1 h2 => by
    cases q : H b with
    | none => rfl
    | some u =>
      rcases R.few b (by rw [q]; simp) with z | z
      · rw [z, ha] at e; cases e; exact (h1 _ _ rfl).elim
      · rw [z, hT] at e; cases e; exact (h2 rfl).elim
  have offD : ∀ {b : Addr} {o : Obj} {es : Array DictEntry} {ep : Nat}, s₁.heap.get? b = some o → o.data = .dict es ep → H b = none := fun {b o es ep} e d => off e (fun vs n z => by rw [d] at z; cases z) (fun z => by rw [d] at z; cases z)
  have nsK : ∀ {b : Addr} {m : Str → Option Value}, s₁.heap.Ns b m → (hidT s₁.heap H).Ns b m := fun {b m} ⟨o, es, ep, e, d, r⟩ => ⟨o, es, ep, put e (offD e d), d, r⟩
  have KB : K.In (hidT s₁.heap H) := fun b o e => put (KX b o e) (by
    cases q : H b with
    | none => rfl
    | some u =>
      rcases R.few b (by rw [q]; simp) with z | z
      · rw [z] at e q
        rw [R.free (by rw [q]; simp)] at e
        cases e
      · rw [z, nT] at e; cases e)
  have M : L2.Mod K mg (hidT s₁.heap H) := ⟨KB, nsK hns, ⟨mb, nsK hb, hbb⟩, let ⟨mc, h1, h2⟩ := hlim; ⟨mc, nsK h1, h2⟩⟩
  have TB : TabB (hidT s₁.heap H) mg c T := by
    refine ⟨?_, ?_, fun z => ?_⟩
    · obtain ⟨o, us, file, tf, flags, tg, inF, text, tt, e1, r1, r2, r3, r4, r5, r6, r7, r8, hne⟩ := C
      refine ⟨o, us, file, tf, flags, tg, inF, text, tt, put e1 (off e1 (fun vs n z => ?_) fun z => ?_), r1, r2, r3, r4, r5, r6, r7, r8, hne⟩
      · rw [r2] at z; cases z
      · rw [r2] at z; cases z; simp at r3
    · obtain ⟨bm, ob, b1, b2, b3, b4, b5, b6⟩ := hbm
      have nG : bm ≠ mainGlobals := fun q => by
        obtain ⟨o, es, ep, e, hd, _⟩ := hns
        rw [q, e] at b3; cases b3; rw [hd] at b6; cases b6
      have nP : bm ≠ T := fun q => by
        rw [q, hT] at b3; cases b3; cases b6
      exact ⟨bm, ob, b1, b2, nG, nP, put b3 (off b3 (fun vs n z => by rw [b6] at z; cases z) fun z => by rw [b6] at z; cases z), b4, b5, b6⟩
    · obtain ⟨o, es, ep, e, hd, _⟩ := hns
      rw [z, hT] at e; cases e; cases hd
  have e0 : Env0 P w K mg (hidT s₁.heap H) callerA [] s₁ H := ⟨rfl, M, fun b o e => of_hidT e, Nat.le_of_eq (hidT_size _ _), trivial, fun b hb => absurd (show b ∈ ([] : List Addr) from hb) (by simp), R.ok, .of_eq hg⟩
  refine codeAny_mono ((F _ KB (nsK hns) TB).run callerA [] s₁ H ⟨[.ref a], []⟩ [.ref a] [.ref a] _ _ hr rfl e0 (hbind s₁ (.ref a)) (.cons rfl .nil) (hsp H R.tab R.scr)) fun r s' h => ?_
  cases r with
  | error e => exact (hCX H e s' h).elim
  | ok fl =>
    cases fl with
    | next => exact False.elim h
    | brk => exact False.elim h
    | cont => exact False.elim h
    | ret u =>
      obtain ⟨v, H', os, bare, un, hok', r', q⟩ := h
      have q' : v = .bl true := q
      subst q'
      obtain rfl : u = Value.bool true := r'
      have stay : ∀ b o, b ≠ T → s₁.heap.get? b = some o → s'.heap.get? b = some o := fun b o nb e => by
        rcases R.kind b with z | z | ⟨ob, xs, z⟩
        · exact un.keep b o e z (by intro y; exact absurd (show b ∈ ([] : List Addr) from y) (by simp)) (by simp)
        · exact absurd z nb
        · have z2 := un.frzs b ob _ z
          obtain ⟨e1, _⟩ := R.ok b _ z
          obtain ⟨e2, _⟩ := hok' b _ z2
          rw [e] at e1; cases e1
          exact e2
      obtain ⟨more, z⟩ := un.tbls T #[] R.tab
      have grown : ∃ more : Array Value, s'.heap.get? T = some { cls := .none, data := .fields more } := ⟨_, hok' T _ z⟩
      obtain ⟨m2, hm⟩ := grown
      refine ⟨rfl, ⟨fun b o e => ?_, fun b o e => ?_⟩, os, bare⟩
      · by_cases hb : b = T
        · rw [hb] at e ⊢
          rw [hT] at e; cases e
          exact .inr (.inl ⟨(C.tab hT).isCodeTable, rfl, #[], m2, rfl, by rw [Array.empty_append]; exact hm⟩)
        · exact .inl (stay b o hb e)
      · by_cases hb : b = T
        · rw [hb]; exact ⟨_, hm⟩
        · exact ⟨o, stay b o hb e⟩
end
theorem walk_G {l : PySem.W.OpenLaw} {n k : Nat} {q : Program} {loose : List Str} {XP : (Str → Option Value) → Heap → Prop} {YP : World → Heap → Prop} {d : DefRec} {CX : World → CXT} {x : Str}
    (hn : l.most = some n) (hn2 : n ≤ sizeLine) (hdf : d.params.defaults = []) (hr : Room k callerA)
    (F : ∀ (w : World) (mg : Str → Option Value) (fa : Addr) (h : Heap), YP w h → h.Ns mainGlobals mg → mg d.name = some (.ref fa) → ∃ (K : PySem.W.Frag) (fd : FuncData) (c T : Addr) (sp : Sp), K.In h ∧ h.get? T = some { cls := .none, data := .fields #[] } ∧ K.lookup T = none ∧ PySem.W.CodeHd h c T ∧ (∀ (s : Shared) (u : Value), BindsTo s fd ⟨[u], []⟩ [(x, u)]) ∧
      (∀ (H : Hp) (a : Addr) (ns : List Int), ns.length ≤ n → H T = some (.tbl #[]) → SqL K H a (ns.map V.int) → sp [.ref a] H (fun v _ => v = .bl true) fun _ _ _ => False) ∧
      ∀ base : Heap, K.In base → base.Ns mainGlobals mg → TabB base mg c T → FnG l.prog w K mg base (CX w) k fa fd [x] sp)
    (hCX : ∀ (w : World) (H : Hp) (s : Shared) (e : Value) (s' : Shared), CX w [] H s (fun _ _ _ => False) e s' → False) :
    PySem.W.WalkO q loose XP YP l.row.toRowW d [] (fun f vs => PySem.call f vs) := by
  refine Att.attach_callB hn hdf fun w s₀ s₁ mg mb fa o pm cd doc a vs ns G Y ho hd hcd hmg hobj hints hlen hbits hg => ?_
  obtain ⟨K, fd, c, T, sp, KX, hT, nT, C, hb, hsp, hF⟩ := F w mg fa _ Y G.T.g hmg
  exact law_callG KX G.T.g G.T.b G.T.builtins G.T.nolimit hg hT nT C G.T.bmain hobj hints (Nat.le_trans hlen hn2) hr hF hb (fun H hH hS => hsp H a ns hlen hH hS) fun H e s' => hCX w H s₁ e s'
end TC
set_option maxHeartbeats 0
namespace K41
open PySem PySem.Spec PyProof.Rows L2 He TC
structure Wk (h0 : Heap) (K : PySem.W.Frag) (mg : Str → Option Value) (base : Heap) : Prop where
  says : SaysZ fa fn er tf ex h0 K
  kin : K.In base
  glob : base.Ns mainGlobals mg
section
variable {h0 base : Heap} {K : PySem.W.Frag} {mg : Str → Option Value}
theorem g_is_integer (T : Wk h0 K mg base) : mg "is_integer" = some (.ref (ga K "is_integer")) := glo_ok T.kin T.glob (T.says.d.fact 0 (f := .glo "is_integer") rfl)
theorem g_is_row (T : Wk h0 K mg base) : mg "is_row" = some (.ref (ga K "is_row")) := glo_ok T.kin T.glob (T.says.d.fact 1 (f := .glo "is_row") rfl)
theorem g_kept (T : Wk h0 K mg base) : mg "kept" = some (.ref (ga K "kept")) := glo_ok T.kin T.glob (T.says.d.fact 2 (f := .glo "kept") rfl)
theorem g_is_integers (T : Wk h0 K mg base) : mg "is_integers" = some (.ref (ga K "is_integers")) := glo_ok T.kin T.glob (T.says.d.fact 3 (f := .glo "is_integers") rfl)
theorem g_shares_of (T : Wk h0 K mg base) : mg "shares_of" = some (.ref (ga K "shares_of")) := glo_ok T.kin T.glob (T.says.d.fact 4 (f := .glo "shares_of") rfl)
theorem g_characters_breach (T : Wk h0 K mg base) : mg "characters_breach" = some (.ref (ga K "characters_breach")) := glo_ok T.kin T.glob (T.says.d.fact 5 (f := .glo "characters_breach") rfl)
theorem g_need_integers (T : Wk h0 K mg base) : mg "need_integers" = some (.ref (ga K "need_integers")) := glo_ok T.kin T.glob (T.says.d.fact 6 (f := .glo "need_integers") rfl)
theorem g_settled_character (T : Wk h0 K mg base) : mg "settled_character" = some (.ref (ga K "settled_character")) := glo_ok T.kin T.glob (T.says.d.fact 7 (f := .glo "settled_character") rfl)
theorem g_settle_character (T : Wk h0 K mg base) : mg "settle_character" = some (.ref (ga K "settle_character")) := glo_ok T.kin T.glob (T.says.d.fact 8 (f := .glo "settle_character") rfl)
theorem g_need_character (T : Wk h0 K mg base) : mg "need_character" = some (.ref (ga K "need_character")) := glo_ok T.kin T.glob (T.says.d.fact 9 (f := .glo "need_character") rfl)
theorem g_need_pairs (T : Wk h0 K mg base) : mg "need_pairs" = some (.ref (ga K "need_pairs")) := glo_ok T.kin T.glob (T.says.d.fact 10 (f := .glo "need_pairs") rfl)
theorem g_cable_breach (T : Wk h0 K mg base) : mg "cable_breach" = some (.ref (ga K "cable_breach")) := glo_ok T.kin T.glob (T.says.d.fact 11 (f := .glo "cable_breach") rfl)
theorem g_row_by_cable (T : Wk h0 K mg base) : mg "row_by_cable" = some (.ref (ga K "row_by_cable")) := glo_ok T.kin T.glob (T.says.d.fact 12 (f := .glo "row_by_cable") rfl)
theorem g_settle_cable (T : Wk h0 K mg base) : mg "settle_cable" = some (.ref (ga K "settle_cable")) := glo_ok T.kin T.glob (T.says.d.fact 13 (f := .glo "settle_cable") rfl)
theorem g_cable_fault (T : Wk h0 K mg base) : mg "cable_fault" = some (.ref (ga K "cable_fault")) := glo_ok T.kin T.glob (T.says.d.fact 14 (f := .glo "cable_fault") rfl)
theorem g_cable_of (T : Wk h0 K mg base) : mg "cable_of" = some (.ref (ga K "cable_of")) := glo_ok T.kin T.glob (T.says.d.fact 15 (f := .glo "cable_of") rfl)
theorem g_cable_row (T : Wk h0 K mg base) : mg "cable_row" = some (.ref (ga K "cable_row")) := glo_ok T.kin T.glob (T.says.d.fact 16 (f := .glo "cable_row") rfl)
theorem g_generators_of (T : Wk h0 K mg base) : mg "generators_of" = some (.ref (ga K "generators_of")) := glo_ok T.kin T.glob (T.says.d.fact 17 (f := .glo "generators_of") rfl)
theorem g_generators (T : Wk h0 K mg base) : mg "generators" = some (.ref (ga K "generators")) := glo_ok T.kin T.glob (T.says.d.fact 18 (f := .glo "generators") rfl)
theorem g_law_pen (T : Wk h0 K mg base) : mg "_law_pen" = some (.ref (ga K "_law_pen")) := glo_ok T.kin T.glob (T.says.d.fact 19 (f := .glo "_law_pen") rfl)
theorem g_law_draw (T : Wk h0 K mg base) : mg "_law_draw" = some (.ref (ga K "_law_draw")) := glo_ok T.kin T.glob (T.says.d.fact 20 (f := .glo "_law_draw") rfl)
theorem g_law_pick (T : Wk h0 K mg base) : mg "_law_pick" = some (.ref (ga K "_law_pick")) := glo_ok T.kin T.glob (T.says.d.fact 21 (f := .glo "_law_pick") rfl)
theorem g_law_listed (T : Wk h0 K mg base) : mg "_law_listed" = some (.ref (ga K "_law_listed")) := glo_ok T.kin T.glob (T.says.d.fact 22 (f := .glo "_law_listed") rfl)
theorem g_law_g_caught (T : Wk h0 K mg base) : mg "_law_g_caught" = some (.ref (ga K "_law_g_caught")) := glo_ok T.kin T.glob (T.says.d.fact 23 (f := .glo "_law_g_caught") rfl)
theorem g_law_g_gcd (T : Wk h0 K mg base) : mg "_law_g_gcd" = some (.ref (ga K "_law_g_gcd")) := glo_ok T.kin T.glob (T.says.d.fact 24 (f := .glo "_law_g_gcd") rfl)
theorem g_law_g_shares (T : Wk h0 K mg base) : mg "_law_g_shares" = some (.ref (ga K "_law_g_shares")) := glo_ok T.kin T.glob (T.says.d.fact 25 (f := .glo "_law_g_shares") rfl)
theorem g_law_g_rows (T : Wk h0 K mg base) : mg "_law_g_rows" = some (.ref (ga K "_law_g_rows")) := glo_ok T.kin T.glob (T.says.d.fact 26 (f := .glo "_law_g_rows") rfl)
theorem g_law_t_cable (T : Wk h0 K mg base) : mg "_law_t_cable" = some (.ref (ga K "_law_t_cable")) := glo_ok T.kin T.glob (T.says.d.fact 27 (f := .glo "_law_t_cable") rfl)
theorem g_law_breach (T : Wk h0 K mg base) : mg "_law_breach" = some (.ref (ga K "_law_breach")) := glo_ok T.kin T.glob (T.says.d.fact 28 (f := .glo "_law_breach") rfl)
theorem g_law_row (T : Wk h0 K mg base) : mg "_law_row" = some (.ref (ga K "_law_row")) := glo_ok T.kin T.glob (T.says.d.fact 29 (f := .glo "_law_row") rfl)
theorem g_law_due (T : Wk h0 K mg base) : mg "_law_due" = some (.ref (ga K "_law_due")) := glo_ok T.kin T.glob (T.says.d.fact 30 (f := .glo "_law_due") rfl)
theorem g_law (T : Wk h0 K mg base) : mg "law" = some (.ref (ga K "law")) := glo_ok T.kin T.glob (T.says.d.fact 31 (f := .glo "law") rfl)
theorem g_Characters (T : Wk h0 K mg base) : mg "Characters" = some (.ref (ga K "Characters")) := glo_ok T.kin T.glob (T.says.d.fact 32 (f := .glo "Characters") rfl)
theorem c_Characters (T : Wk h0 K mg base) : Cls K (ga K "Characters") := cls_ok (T.says.d.fact 33 (f := .cls "Characters") rfl)
theorem k_Characters (T : Wk h0 K mg base) : Mk K (ga K "Characters") (ma K (ga K "Characters") "__init__") := mkr_ok (T.says.d.fact 34 (f := .mkr "Characters") rfl)
theorem me_Characters_eq (T : Wk h0 K mg base) : Meth K (ga K "Characters") "__eq__" (ma K (ga K "Characters") "__eq__") := meth_ok (T.says.d.fact 35 (f := .meth "Characters" "__eq__") rfl)
theorem n_Characters_shares (T : Wk h0 K mg base) : NoAttr K (ga K "Characters") "shares" := noat_ok (T.says.d.fact 36 (f := .noat "Characters" "shares") rfl)
theorem g_NoCharacters (T : Wk h0 K mg base) : mg "NoCharacters" = some (.ref (ga K "NoCharacters")) := glo_ok T.kin T.glob (T.says.d.fact 37 (f := .glo "NoCharacters") rfl)
theorem c_NoCharacters (T : Wk h0 K mg base) : Cls K (ga K "NoCharacters") := cls_ok (T.says.d.fact 38 (f := .cls "NoCharacters") rfl)
theorem k_NoCharacters (T : Wk h0 K mg base) : Mk K (ga K "NoCharacters") (ma K (ga K "NoCharacters") "__init__") := mkr_ok (T.says.d.fact 39 (f := .mkr "NoCharacters") rfl)
theorem me_NoCharacters_eq (T : Wk h0 K mg base) : Meth K (ga K "NoCharacters") "__eq__" (ma K (ga K "NoCharacters") "__eq__") := meth_ok (T.says.d.fact 40 (f := .meth "NoCharacters" "__eq__") rfl)
theorem n_NoCharacters_why (T : Wk h0 K mg base) : NoAttr K (ga K "NoCharacters") "why" := noat_ok (T.says.d.fact 41 (f := .noat "NoCharacters" "why") rfl)
theorem n_NoCharacters_index (T : Wk h0 K mg base) : NoAttr K (ga K "NoCharacters") "index" := noat_ok (T.says.d.fact 42 (f := .noat "NoCharacters" "index") rfl)
theorem g_CableOf (T : Wk h0 K mg base) : mg "CableOf" = some (.ref (ga K "CableOf")) := glo_ok T.kin T.glob (T.says.d.fact 43 (f := .glo "CableOf") rfl)
theorem c_CableOf (T : Wk h0 K mg base) : Cls K (ga K "CableOf") := cls_ok (T.says.d.fact 44 (f := .cls "CableOf") rfl)
theorem k_CableOf (T : Wk h0 K mg base) : Mk K (ga K "CableOf") (ma K (ga K "CableOf") "__init__") := mkr_ok (T.says.d.fact 45 (f := .mkr "CableOf") rfl)
theorem me_CableOf_eq (T : Wk h0 K mg base) : Meth K (ga K "CableOf") "__eq__" (ma K (ga K "CableOf") "__eq__") := meth_ok (T.says.d.fact 46 (f := .meth "CableOf" "__eq__") rfl)
theorem n_CableOf_row (T : Wk h0 K mg base) : NoAttr K (ga K "CableOf") "row" := noat_ok (T.says.d.fact 47 (f := .noat "CableOf" "row") rfl)
theorem g_NoCable (T : Wk h0 K mg base) : mg "NoCable" = some (.ref (ga K "NoCable")) := glo_ok T.kin T.glob (T.says.d.fact 48 (f := .glo "NoCable") rfl)
theorem c_NoCable (T : Wk h0 K mg base) : Cls K (ga K "NoCable") := cls_ok (T.says.d.fact 49 (f := .cls "NoCable") rfl)
theorem k_NoCable (T : Wk h0 K mg base) : Mk K (ga K "NoCable") (ma K (ga K "NoCable") "__init__") := mkr_ok (T.says.d.fact 50 (f := .mkr "NoCable") rfl)
theorem me_NoCable_eq (T : Wk h0 K mg base) : Meth K (ga K "NoCable") "__eq__" (ma K (ga K "NoCable") "__eq__") := meth_ok (T.says.d.fact 51 (f := .meth "NoCable" "__eq__") rfl)
theorem n_NoCable_why (T : Wk h0 K mg base) : NoAttr K (ga K "NoCable") "why" := noat_ok (T.says.d.fact 52 (f := .noat "NoCable" "why") rfl)
theorem n_NoCable_index (T : Wk h0 K mg base) : NoAttr K (ga K "NoCable") "index" := noat_ok (T.says.d.fact 53 (f := .noat "NoCable" "index") rfl)
theorem i_MOST_FIRST (T : Wk h0 K mg base) : ∃ u, mg "MOST_FIRST" = some u ∧ RelV (.int 60) u := let ⟨t, h⟩ := int_ok T.kin T.glob (T.says.d.fact 54 (f := .int "MOST_FIRST" 60) rfl); ⟨_, h, t, rfl⟩
theorem i_MOST_ITEM (T : Wk h0 K mg base) : ∃ u, mg "MOST_ITEM" = some u ∧ RelV (.int 400) u := let ⟨t, h⟩ := int_ok T.kin T.glob (T.says.d.fact 55 (f := .int "MOST_ITEM" 400) rfl); ⟨_, h, t, rfl⟩
theorem i_MOST_LENGTH (T : Wk h0 K mg base) : ∃ u, mg "MOST_LENGTH" = some u ∧ RelV (.int 5) u := let ⟨t, h⟩ := int_ok T.kin T.glob (T.says.d.fact 56 (f := .int "MOST_LENGTH" 5) rfl); ⟨_, h, t, rfl⟩
theorem i_MOST_PAIRS (T : Wk h0 K mg base) : ∃ u, mg "MOST_PAIRS" = some u ∧ RelV (.int 4) u := let ⟨t, h⟩ := int_ok T.kin T.glob (T.says.d.fact 57 (f := .int "MOST_PAIRS" 4) rfl); ⟨_, h, t, rfl⟩
theorem m_len (T : Wk h0 K mg base) : mg "len" = none := free_ok T.kin T.glob (T.says.d.fact 58 (f := .free "len") rfl)
theorem m_all (T : Wk h0 K mg base) : mg "all" = none := free_ok T.kin T.glob (T.says.d.fact 59 (f := .free "all") rfl)
theorem m_any (T : Wk h0 K mg base) : mg "any" = none := free_ok T.kin T.glob (T.says.d.fact 60 (f := .free "any") rfl)
theorem m_isinstance (T : Wk h0 K mg base) : mg "isinstance" = none := free_ok T.kin T.glob (T.says.d.fact 61 (f := .free "isinstance") rfl)
theorem m_tuple (T : Wk h0 K mg base) : mg "tuple" = none := free_ok T.kin T.glob (T.says.d.fact 62 (f := .free "tuple") rfl)
theorem m_list (T : Wk h0 K mg base) : mg "list" = none := free_ok T.kin T.glob (T.says.d.fact 63 (f := .free "list") rfl)
theorem m_range (T : Wk h0 K mg base) : mg "range" = none := free_ok T.kin T.glob (T.says.d.fact 64 (f := .free "range") rfl)
theorem m_enumerate (T : Wk h0 K mg base) : mg "enumerate" = none := free_ok T.kin T.glob (T.says.d.fact 65 (f := .free "enumerate") rfl)
theorem m_zip (T : Wk h0 K mg base) : mg "zip" = none := free_ok T.kin T.glob (T.says.d.fact 66 (f := .free "zip") rfl)
theorem m_sorted (T : Wk h0 K mg base) : mg "sorted" = none := free_ok T.kin T.glob (T.says.d.fact 67 (f := .free "sorted") rfl)
theorem m_set (T : Wk h0 K mg base) : mg "set" = none := free_ok T.kin T.glob (T.says.d.fact 68 (f := .free "set") rfl)
theorem m_min (T : Wk h0 K mg base) : mg "min" = none := free_ok T.kin T.glob (T.says.d.fact 69 (f := .free "min") rfl)
theorem m_max (T : Wk h0 K mg base) : mg "max" = none := free_ok T.kin T.glob (T.says.d.fact 70 (f := .free "max") rfl)
theorem m_sum (T : Wk h0 K mg base) : mg "sum" = none := free_ok T.kin T.glob (T.says.d.fact 71 (f := .free "sum") rfl)
theorem m_abs (T : Wk h0 K mg base) : mg "abs" = none := free_ok T.kin T.glob (T.says.d.fact 72 (f := .free "abs") rfl)
theorem m_int (T : Wk h0 K mg base) : mg "int" = none := free_ok T.kin T.glob (T.says.d.fact 73 (f := .free "int") rfl)
theorem m_str (T : Wk h0 K mg base) : mg "str" = none := free_ok T.kin T.glob (T.says.d.fact 74 (f := .free "str") rfl)
theorem m_bool (T : Wk h0 K mg base) : mg "bool" = none := free_ok T.kin T.glob (T.says.d.fact 75 (f := .free "bool") rfl)
theorem m_repr (T : Wk h0 K mg base) : mg "repr" = none := free_ok T.kin T.glob (T.says.d.fact 76 (f := .free "repr") rfl)
theorem m_super (T : Wk h0 K mg base) : mg "super" = none := free_ok T.kin T.glob (T.says.d.fact 77 (f := .free "super") rfl)
theorem m_ValueError (T : Wk h0 K mg base) : mg "ValueError" = none := free_ok T.kin T.glob (T.says.d.fact 78 (f := .free "ValueError") rfl)
theorem m_dict (T : Wk h0 K mg base) : mg "dict" = none := free_ok T.kin T.glob (T.says.d.fact 79 (f := .free "dict") rfl)
theorem g_TouchError (T : Wk h0 K mg base) : mg "TouchError" = some (.ref (ga K "TouchError")) := glo_ok T.kin T.glob (T.says.d.fact 80 (f := .glo "TouchError") rfl)
theorem g_BadNumber (T : Wk h0 K mg base) : mg "BadNumber" = some (.ref (ga K "BadNumber")) := glo_ok T.kin T.glob (T.says.d.fact 81 (f := .glo "BadNumber") rfl)
theorem g_BadRow (T : Wk h0 K mg base) : mg "BadRow" = some (.ref (ga K "BadRow")) := glo_ok T.kin T.glob (T.says.d.fact 82 (f := .glo "BadRow") rfl)
theorem g_BadItem (T : Wk h0 K mg base) : mg "BadItem" = some (.ref (ga K "BadItem")) := glo_ok T.kin T.glob (T.says.d.fact 83 (f := .glo "BadItem") rfl)
theorem g_TooMany (T : Wk h0 K mg base) : mg "TooMany" = some (.ref (ga K "TooMany")) := glo_ok T.kin T.glob (T.says.d.fact 84 (f := .glo "TooMany") rfl)
theorem g_BadCurve (T : Wk h0 K mg base) : mg "BadCurve" = some (.ref (ga K "BadCurve")) := glo_ok T.kin T.glob (T.says.d.fact 85 (f := .glo "BadCurve") rfl)
theorem g_SharesBranch (T : Wk h0 K mg base) : mg "SharesBranch" = some (.ref (ga K "SharesBranch")) := glo_ok T.kin T.glob (T.says.d.fact 86 (f := .glo "SharesBranch") rfl)
theorem g_NotBranched (T : Wk h0 K mg base) : mg "NotBranched" = some (.ref (ga K "NotBranched")) := glo_ok T.kin T.glob (T.says.d.fact 87 (f := .glo "NotBranched") rfl)
theorem g_BadCharacters (T : Wk h0 K mg base) : mg "BadCharacters" = some (.ref (ga K "BadCharacters")) := glo_ok T.kin T.glob (T.says.d.fact 88 (f := .glo "BadCharacters") rfl)
theorem g_NotOf (T : Wk h0 K mg base) : mg "NotOf" = some (.ref (ga K "NotOf")) := glo_ok T.kin T.glob (T.says.d.fact 89 (f := .glo "NotOf") rfl)
theorem g_NotStraight (T : Wk h0 K mg base) : mg "NotStraight" = some (.ref (ga K "NotStraight")) := glo_ok T.kin T.glob (T.says.d.fact 90 (f := .glo "NotStraight") rfl)
theorem g_BadType (T : Wk h0 K mg base) : mg "BadType" = some (.ref (ga K "BadType")) := glo_ok T.kin T.glob (T.says.d.fact 91 (f := .glo "BadType") rfl)
theorem f_is_integer (T : Wk h0 K mg base) : ∃ fd, FunD K "is_integer" "is_integer" (defArgs s_is_integer) (defBody s_is_integer) (defScope s_is_integer) [] [] (ga K "is_integer") fd := T.says.d.def_ 0 (d := d_is_integer) rfl
theorem f_is_row (T : Wk h0 K mg base) : ∃ fd, FunD K "is_row" "is_row" (defArgs s_is_row) (defBody s_is_row) (defScope s_is_row) [] [] (ga K "is_row") fd := T.says.d.def_ 1 (d := d_is_row) rfl
theorem f_kept (T : Wk h0 K mg base) : ∃ fd, FunD K "kept" "kept" (defArgs s_kept) (defBody s_kept) (defScope s_kept) [] [] (ga K "kept") fd := T.says.d.def_ 2 (d := d_kept) rfl
theorem f_Characters_init (T : Wk h0 K mg base) : ∃ fd, FunD K "__init__" "Characters.__init__" (defArgs s_Characters_init) (defBody s_Characters_init) (defScope s_Characters_init) [] [] (ma K (ga K "Characters") "__init__") fd := T.says.d.def_ 3 (d := d_Characters_init) rfl
theorem f_Characters_eq (T : Wk h0 K mg base) : ∃ fd, FunD K "__eq__" "Characters.__eq__" (defArgs s_Characters_eq) (defBody s_Characters_eq) (defScope s_Characters_eq) [] [] (ma K (ga K "Characters") "__eq__") fd := T.says.d.def_ 4 (d := d_Characters_eq) rfl
theorem f_NoCharacters_init (T : Wk h0 K mg base) : ∃ fd, FunD K "__init__" "NoCharacters.__init__" (defArgs s_NoCharacters_init) (defBody s_NoCharacters_init) (defScope s_NoCharacters_init) [] [] (ma K (ga K "NoCharacters") "__init__") fd := T.says.d.def_ 5 (d := d_NoCharacters_init) rfl
theorem f_NoCharacters_eq (T : Wk h0 K mg base) : ∃ fd, FunD K "__eq__" "NoCharacters.__eq__" (defArgs s_NoCharacters_eq) (defBody s_NoCharacters_eq) (defScope s_NoCharacters_eq) [] [] (ma K (ga K "NoCharacters") "__eq__") fd := T.says.d.def_ 6 (d := d_NoCharacters_eq) rfl
theorem f_is_integers (T : Wk h0 K mg base) : ∃ fd, FunD K "is_integers" "is_integers" (defArgs s_is_integers) (defBody s_is_integers) (defScope s_is_integers) [] [] (ga K "is_integers") fd := T.says.d.def_ 7 (d := d_is_integers) rfl
theorem f_shares_of (T : Wk h0 K mg base) : ∃ fd, FunD K "shares_of" "shares_of" (defArgs s_shares_of) (defBody s_shares_of) (defScope s_shares_of) [] [] (ga K "shares_of") fd := T.says.d.def_ 8 (d := d_shares_of) rfl
theorem f_characters_breach (T : Wk h0 K mg base) : ∃ fd, FunD K "characters_breach" "characters_breach" (defArgs s_characters_breach) (defBody s_characters_breach) (defScope s_characters_breach) [] [] (ga K "characters_breach") fd := T.says.d.def_ 9 (d := d_characters_breach) rfl
theorem f_need_integers (T : Wk h0 K mg base) : ∃ fd, FunD K "need_integers" "need_integers" (defArgs s_need_integers) (defBody s_need_integers) (defScope s_need_integers) [] [] (ga K "need_integers") fd := T.says.d.def_ 10 (d := d_need_integers) rfl
theorem f_settled_character (T : Wk h0 K mg base) : ∃ fd, FunD K "settled_character" "settled_character" (defArgs s_settled_character) (defBody s_settled_character) (defScope s_settled_character) [] [] (ga K "settled_character") fd := T.says.d.def_ 11 (d := d_settled_character) rfl
theorem f_settle_character (T : Wk h0 K mg base) : ∃ fd, FunD K "settle_character" "settle_character" (defArgs s_settle_character) (defBody s_settle_character) (defScope s_settle_character) [] [] (ga K "settle_character") fd := T.says.d.def_ 12 (d := d_settle_character) rfl
theorem f_need_character (T : Wk h0 K mg base) : ∃ fd, FunD K "need_character" "need_character" (defArgs s_need_character) (defBody s_need_character) (defScope s_need_character) [] [] (ga K "need_character") fd := T.says.d.def_ 13 (d := d_need_character) rfl
theorem f_CableOf_init (T : Wk h0 K mg base) : ∃ fd, FunD K "__init__" "CableOf.__init__" (defArgs s_CableOf_init) (defBody s_CableOf_init) (defScope s_CableOf_init) [] [] (ma K (ga K "CableOf") "__init__") fd := T.says.d.def_ 14 (d := d_CableOf_init) rfl
theorem f_CableOf_eq (T : Wk h0 K mg base) : ∃ fd, FunD K "__eq__" "CableOf.__eq__" (defArgs s_CableOf_eq) (defBody s_CableOf_eq) (defScope s_CableOf_eq) [] [] (ma K (ga K "CableOf") "__eq__") fd := T.says.d.def_ 15 (d := d_CableOf_eq) rfl
theorem f_NoCable_init (T : Wk h0 K mg base) : ∃ fd, FunD K "__init__" "NoCable.__init__" (defArgs s_NoCable_init) (defBody s_NoCable_init) (defScope s_NoCable_init) [] [] (ma K (ga K "NoCable") "__init__") fd := T.says.d.def_ 16 (d := d_NoCable_init) rfl
theorem f_NoCable_eq (T : Wk h0 K mg base) : ∃ fd, FunD K "__eq__" "NoCable.__eq__" (defArgs s_NoCable_eq) (defBody s_NoCable_eq) (defScope s_NoCable_eq) [] [] (ma K (ga K "NoCable") "__eq__") fd := T.says.d.def_ 17 (d := d_NoCable_eq) rfl
theorem f_need_pairs (T : Wk h0 K mg base) : ∃ fd, FunD K "need_pairs" "need_pairs" (defArgs s_need_pairs) (defBody s_need_pairs) (defScope s_need_pairs) [] [] (ga K "need_pairs") fd := T.says.d.def_ 18 (d := d_need_pairs) rfl
theorem f_cable_breach (T : Wk h0 K mg base) : ∃ fd, FunD K "cable_breach" "cable_breach" (defArgs s_cable_breach) (defBody s_cable_breach) (defScope s_cable_breach) [] [] (ga K "cable_breach") fd := T.says.d.def_ 19 (d := d_cable_breach) rfl
theorem f_row_by_cable (T : Wk h0 K mg base) : ∃ fd, FunD K "row_by_cable" "row_by_cable" (defArgs s_row_by_cable) (defBody s_row_by_cable) (defScope s_row_by_cable) [] [] (ga K "row_by_cable") fd := T.says.d.def_ 20 (d := d_row_by_cable) rfl
theorem f_settle_cable (T : Wk h0 K mg base) : ∃ fd, FunD K "settle_cable" "settle_cable" (defArgs s_settle_cable) (defBody s_settle_cable) (defScope s_settle_cable) [] [] (ga K "settle_cable") fd := T.says.d.def_ 21 (d := d_settle_cable) rfl
theorem f_cable_fault (T : Wk h0 K mg base) : ∃ fd, FunD K "cable_fault" "cable_fault" (defArgs s_cable_fault) (defBody s_cable_fault) (defScope s_cable_fault) [] [] (ga K "cable_fault") fd := T.says.d.def_ 22 (d := d_cable_fault) rfl
theorem f_cable_of (T : Wk h0 K mg base) : ∃ fd, FunD K "cable_of" "cable_of" (defArgs s_cable_of) (defBody s_cable_of) (defScope s_cable_of) [] [] (ga K "cable_of") fd := T.says.d.def_ 23 (d := d_cable_of) rfl
theorem f_cable_row (T : Wk h0 K mg base) : ∃ fd, FunD K "cable_row" "cable_row" (defArgs s_cable_row) (defBody s_cable_row) (defScope s_cable_row) [] [] (ga K "cable_row") fd := T.says.d.def_ 24 (d := d_cable_row) rfl
theorem f_generators_of (T : Wk h0 K mg base) : ∃ fd, FunD K "generators_of" "generators_of" (defArgs s_generators_of) (defBody s_generators_of) (defScope s_generators_of) [] [] (ga K "generators_of") fd := T.says.d.def_ 25 (d := d_generators_of) rfl
theorem f_generators (T : Wk h0 K mg base) : ∃ fd, FunD K "generators" "generators" (defArgs s_generators) (defBody s_generators) (defScope s_generators) [] [] (ga K "generators") fd := T.says.d.def_ 26 (d := d_generators) rfl
theorem f_law_pen (T : Wk h0 K mg base) : ∃ fd, FunD K "_law_pen" "_law_pen" (defArgs s_law_pen) (defBody s_law_pen) (defScope s_law_pen) [] [] (ga K "_law_pen") fd := T.says.d.def_ 27 (d := d_law_pen) rfl
theorem f_law_draw (T : Wk h0 K mg base) : ∃ fd, FunD K "_law_draw" "_law_draw" (defArgs s_law_draw) (defBody s_law_draw) (defScope s_law_draw) [] [] (ga K "_law_draw") fd := T.says.d.def_ 28 (d := d_law_draw) rfl
theorem f_law_pick (T : Wk h0 K mg base) : ∃ fd, FunD K "_law_pick" "_law_pick" (defArgs s_law_pick) (defBody s_law_pick) (defScope s_law_pick) [] [] (ga K "_law_pick") fd := T.says.d.def_ 29 (d := d_law_pick) rfl
theorem f_law_listed (T : Wk h0 K mg base) : ∃ fd, FunD K "_law_listed" "_law_listed" (defArgs s_law_listed) (defBody s_law_listed) (defScope s_law_listed) [] [] (ga K "_law_listed") fd := T.says.d.def_ 30 (d := d_law_listed) rfl
theorem f_law_g_caught (T : Wk h0 K mg base) : ∃ fd, FunD K "_law_g_caught" "_law_g_caught" (defArgs s_law_g_caught) (defBody s_law_g_caught) (defScope s_law_g_caught) [] [] (ga K "_law_g_caught") fd := T.says.d.def_ 31 (d := d_law_g_caught) rfl
theorem f_law_g_gcd (T : Wk h0 K mg base) : ∃ fd, FunD K "_law_g_gcd" "_law_g_gcd" (defArgs s_law_g_gcd) (defBody s_law_g_gcd) (defScope s_law_g_gcd) [] [] (ga K "_law_g_gcd") fd := T.says.d.def_ 32 (d := d_law_g_gcd) rfl
theorem f_law_g_shares (T : Wk h0 K mg base) : ∃ fd, FunD K "_law_g_shares" "_law_g_shares" (defArgs s_law_g_shares) (defBody s_law_g_shares) (defScope s_law_g_shares) [] [] (ga K "_law_g_shares") fd := T.says.d.def_ 33 (d := d_law_g_shares) rfl
theorem f_law_g_rows (T : Wk h0 K mg base) : ∃ fd, FunD K "_law_g_rows" "_law_g_rows" (defArgs s_law_g_rows) (defBody s_law_g_rows) (defScope s_law_g_rows) [] [] (ga K "_law_g_rows") fd := T.says.d.def_ 34 (d := d_law_g_rows) rfl
theorem f_law_t_cable (T : Wk h0 K mg base) : ∃ fd, FunD K "_law_t_cable" "_law_t_cable" (defArgs s_law_t_cable) (defBody s_law_t_cable) (defScope s_law_t_cable) [] [] (ga K "_law_t_cable") fd := T.says.d.def_ 35 (d := d_law_t_cable) rfl
theorem f_law_breach (T : Wk h0 K mg base) : ∃ fd, FunD K "_law_breach" "_law_breach" (defArgs s_law_breach) (defBody s_law_breach) (defScope s_law_breach) [] [] (ga K "_law_breach") fd := T.says.d.def_ 36 (d := d_law_breach) rfl
theorem f_law_row (T : Wk h0 K mg base) : ∃ fd, FunD K "_law_row" "_law_row" (defArgs s_law_row) (defBody s_law_row) (defScope s_law_row) [] [] (ga K "_law_row") fd := T.says.d.def_ 37 (d := d_law_row) rfl
theorem f_law_due (T : Wk h0 K mg base) : ∃ fd, FunD K "_law_due" "_law_due" (defArgs s_law_due) (defBody s_law_due) (defScope s_law_due) [] [] (ga K "_law_due") fd := T.says.d.def_ 38 (d := d_law_due) rfl
theorem f_law (T : Wk h0 K mg base) : ∃ fd, FunD K "law" "law" (defArgs s_law) (defBody s_law) (defScope s_law) [] [] (ga K "law") fd := T.says.d.def_ 39 (d := d_law) rfl
end
abbrev N_is_integer : List Str := ["value"]
theorem sc_is_integer : FnScope N_is_integer ["value"] (defScope s_is_integer) := ⟨rfl, rfl, rfl, by decide +kernel, rfl, by decide +kernel, by decide +kernel⟩
abbrev N_is_row : List Str := ["value"]
theorem sc_is_row : FnScope N_is_row ["value"] (defScope s_is_row) := ⟨rfl, rfl, rfl, by decide +kernel, rfl, by decide +kernel, by decide +kernel⟩
abbrev N_kept : List Str := ["value", "item"]
theorem sc_kept : FnScope N_kept ["value"] (defScope s_kept) := ⟨rfl, rfl, rfl, by decide +kernel, rfl, by decide +kernel, by decide +kernel⟩
abbrev N_Characters_init : List Str := ["self", "shares"]
theorem sc_Characters_init : FnScope N_Characters_init ["self", "shares"] (defScope s_Characters_init) := ⟨rfl, rfl, rfl, by decide +kernel, rfl, by decide +kernel, by decide +kernel⟩
abbrev N_Characters_eq : List Str := ["self", "other"]
theorem sc_Characters_eq : FnScope N_Characters_eq ["self", "other"] (defScope s_Characters_eq) := ⟨rfl, rfl, rfl, by decide +kernel, rfl, by decide +kernel, by decide +kernel⟩
abbrev N_NoCharacters_init : List Str := ["self", "why", "index"]
theorem sc_NoCharacters_init : FnScope N_NoCharacters_init ["self", "why", "index"] (defScope s_NoCharacters_init) := ⟨rfl, rfl, rfl, by decide +kernel, rfl, by decide +kernel, by decide +kernel⟩
abbrev N_NoCharacters_eq : List Str := ["self", "other"]
theorem sc_NoCharacters_eq : FnScope N_NoCharacters_eq ["self", "other"] (defScope s_NoCharacters_eq) := ⟨rfl, rfl, rfl, by decide +kernel, rfl, by decide +kernel, by decide +kernel⟩
abbrev N_is_integers : List Str := ["value", "item"]
theorem sc_is_integers : FnScope N_is_integers ["value"] (defScope s_is_integers) := ⟨rfl, rfl, rfl, by decide +kernel, rfl, by decide +kernel, by decide +kernel⟩
abbrev N_shares_of : List Str := ["row", "found", "here", "item"]
theorem sc_shares_of : FnScope N_shares_of ["row"] (defScope s_shares_of) := ⟨rfl, rfl, rfl, by decide +kernel, rfl, by decide +kernel, by decide +kernel⟩
abbrev N_characters_breach : List Str := ["row", "index", "item", "shares"]
theorem sc_characters_breach : FnScope N_characters_breach ["row"] (defScope s_characters_breach) := ⟨rfl, rfl, rfl, by decide +kernel, rfl, by decide +kernel, by decide +kernel⟩
abbrev N_need_integers : List Str := ["row"]
theorem sc_need_integers : FnScope N_need_integers ["row"] (defScope s_need_integers) := ⟨rfl, rfl, rfl, by decide +kernel, rfl, by decide +kernel, by decide +kernel⟩
abbrev N_settled_character : List Str := ["row", "breach"]
theorem sc_settled_character : FnScope N_settled_character ["row"] (defScope s_settled_character) := ⟨rfl, rfl, rfl, by decide +kernel, rfl, by decide +kernel, by decide +kernel⟩
abbrev N_settle_character : List Str := ["row"]
theorem sc_settle_character : FnScope N_settle_character ["row"] (defScope s_settle_character) := ⟨rfl, rfl, rfl, by decide +kernel, rfl, by decide +kernel, by decide +kernel⟩
abbrev N_need_character : List Str := ["row", "answer"]
theorem sc_need_character : FnScope N_need_character ["row"] (defScope s_need_character) := ⟨rfl, rfl, rfl, by decide +kernel, rfl, by decide +kernel, by decide +kernel⟩
abbrev N_CableOf_init : List Str := ["self", "row"]
theorem sc_CableOf_init : FnScope N_CableOf_init ["self", "row"] (defScope s_CableOf_init) := ⟨rfl, rfl, rfl, by decide +kernel, rfl, by decide +kernel, by decide +kernel⟩
abbrev N_CableOf_eq : List Str := ["self", "other"]
theorem sc_CableOf_eq : FnScope N_CableOf_eq ["self", "other"] (defScope s_CableOf_eq) := ⟨rfl, rfl, rfl, by decide +kernel, rfl, by decide +kernel, by decide +kernel⟩
abbrev N_NoCable_init : List Str := ["self", "why", "index"]
theorem sc_NoCable_init : FnScope N_NoCable_init ["self", "why", "index"] (defScope s_NoCable_init) := ⟨rfl, rfl, rfl, by decide +kernel, rfl, by decide +kernel, by decide +kernel⟩
abbrev N_NoCable_eq : List Str := ["self", "other"]
theorem sc_NoCable_eq : FnScope N_NoCable_eq ["self", "other"] (defScope s_NoCable_eq) := ⟨rfl, rfl, rfl, by decide +kernel, rfl, by decide +kernel, by decide +kernel⟩
abbrev N_need_pairs : List Str := ["cable", "pair"]
theorem sc_need_pairs : FnScope N_need_pairs ["cable"] (defScope s_need_pairs) := ⟨rfl, rfl, rfl, by decide +kernel, rfl, by decide +kernel, by decide +kernel⟩
abbrev N_cable_breach : List Str := ["cable", "least", "index", "pair", "p", "a"]
theorem sc_cable_breach : FnScope N_cable_breach ["cable"] (defScope s_cable_breach) := ⟨rfl, rfl, rfl, by decide +kernel, rfl, by decide +kernel, by decide +kernel⟩
abbrev N_row_by_cable : List Str := ["cable", "shares", "p", "a", "found", "ahead", "k", "pair", "step"]
theorem sc_row_by_cable : FnScope N_row_by_cable ["cable"] (defScope s_row_by_cable) := ⟨rfl, rfl, rfl, by decide +kernel, rfl, by decide +kernel, by decide +kernel⟩
abbrev N_settle_cable : List Str := ["cable", "breach"]
theorem sc_settle_cable : FnScope N_settle_cable ["cable"] (defScope s_settle_cable) := ⟨rfl, rfl, rfl, by decide +kernel, rfl, by decide +kernel, by decide +kernel⟩
abbrev N_cable_fault : List Str := ["cable", "answer", "breach"]
theorem sc_cable_fault : FnScope N_cable_fault ["cable", "answer"] (defScope s_cable_fault) := ⟨rfl, rfl, rfl, by decide +kernel, rfl, by decide +kernel, by decide +kernel⟩
abbrev N_cable_of : List Str := ["row", "shares", "found", "k", "p"]
theorem sc_cable_of : FnScope N_cable_of ["row"] (defScope s_cable_of) := ⟨rfl, rfl, rfl, by decide +kernel, rfl, by decide +kernel, by decide +kernel⟩
abbrev N_cable_row : List Str := ["row"]
theorem sc_cable_row : FnScope N_cable_row ["row"] (defScope s_cable_row) := ⟨rfl, rfl, rfl, by decide +kernel, rfl, by decide +kernel, by decide +kernel⟩
abbrev N_generators_of : List Str := ["row", "shares", "found", "index"]
theorem sc_generators_of : FnScope N_generators_of ["row"] (defScope s_generators_of) := ⟨rfl, rfl, rfl, by decide +kernel, rfl, by decide +kernel, by decide +kernel⟩
abbrev N_generators : List Str := ["row"]
theorem sc_generators : FnScope N_generators ["row"] (defScope s_generators) := ⟨rfl, rfl, rfl, by decide +kernel, rfl, by decide +kernel, by decide +kernel⟩
abbrev N_law_pen : List Str := ["script", "fold", "cell"]
theorem sc_law_pen : FnScope N_law_pen ["script"] (defScope s_law_pen) := ⟨rfl, rfl, rfl, by decide +kernel, rfl, by decide +kernel, by decide +kernel⟩
abbrev N_law_draw : List Str := ["pen", "many", "cell", "digit", "mixed"]
theorem sc_law_draw : FnScope N_law_draw ["pen", "many"] (defScope s_law_draw) := ⟨rfl, rfl, rfl, by decide +kernel, rfl, by decide +kernel, by decide +kernel⟩
abbrev N_law_pick : List Str := ["pen", "some"]
theorem sc_law_pick : FnScope N_law_pick ["pen", "some"] (defScope s_law_pick) := ⟨rfl, rfl, rfl, by decide +kernel, rfl, by decide +kernel, by decide +kernel⟩
abbrev N_law_listed : List Str := ["pen", "row"]
theorem sc_law_listed : FnScope N_law_listed ["pen", "row"] (defScope s_law_listed) := ⟨rfl, rfl, rfl, by decide +kernel, rfl, by decide +kernel, by decide +kernel⟩
abbrev N_law_g_caught : List Str := ["call", "e"]
theorem sc_law_g_caught : FnScope N_law_g_caught ["call"] (defScope s_law_g_caught) := ⟨rfl, rfl, rfl, by decide +kernel, rfl, by decide +kernel, by decide +kernel⟩
abbrev N_law_g_gcd : List Str := ["a", "b"]
theorem sc_law_g_gcd : FnScope N_law_g_gcd ["a", "b"] (defScope s_law_g_gcd) := ⟨rfl, rfl, rfl, by decide +kernel, rfl, by decide +kernel, by decide +kernel⟩
abbrev N_law_g_shares : List Str := ["row", "found", "here", "item"]
theorem sc_law_g_shares : FnScope N_law_g_shares ["row"] (defScope s_law_g_shares) := ⟨rfl, rfl, rfl, by decide +kernel, rfl, by decide +kernel, by decide +kernel⟩
abbrev N_law_g_rows : List Str := ["pen", "some"]
theorem sc_law_g_rows : FnScope N_law_g_rows ["pen"] (defScope s_law_g_rows) := ⟨rfl, rfl, rfl, by decide +kernel, rfl, by decide +kernel, by decide +kernel⟩
abbrev N_law_t_cable : List Str := ["row", "shares", "found", "k", "p", "a"]
theorem sc_law_t_cable : FnScope N_law_t_cable ["row"] (defScope s_law_t_cable) := ⟨rfl, rfl, rfl, by decide +kernel, rfl, by decide +kernel, by decide +kernel⟩
abbrev N_law_breach : List Str := ["cable", "least", "index", "pair", "p", "a"]
theorem sc_law_breach : FnScope N_law_breach ["cable"] (defScope s_law_breach) := ⟨rfl, rfl, rfl, by decide +kernel, rfl, by decide +kernel, by decide +kernel⟩
abbrev N_law_row : List Str := ["cable", "shares", "p", "a", "row", "k", "pair"]
theorem sc_law_row : FnScope N_law_row ["cable"] (defScope s_law_row) := ⟨rfl, rfl, rfl, by decide +kernel, rfl, by decide +kernel, by decide +kernel⟩
abbrev N_law_due : List Str := ["cable", "answer", "breach", "row", "item"]
theorem sc_law_due : FnScope N_law_due ["cable", "answer"] (defScope s_law_due) := ⟨rfl, rfl, rfl, by decide +kernel, rfl, by decide +kernel, by decide +kernel⟩
abbrev N_law : List Str := ["script", "pen", "lap", "row", "told", "shares", "cable", "k", "answer", "bend", "some", "other", "bad", "odd", "wrong", "pair", "call", "due"]
theorem sc_law : FnScope N_law ["script"] (defScope s_law) := ⟨rfl, rfl, rfl, by decide +kernel, rfl, by decide +kernel, by decide +kernel⟩
end K41
set_option maxHeartbeats 0
/-! The walks: kinds, data, characters. -/
namespace K41
open PySem PySem.Spec PyProof.Rows L2 He TC Evl
theorem hu64 {k : Nat} {A : Around} (h : Room k A) : A.units + 64 < cLine := h.units
section
variable {P : Program} {w : World} {h0 base : Heap} {K : PySem.W.Frag} {mg : Str → Option Value}
/-! what the Bool of the head tells -/
theorem Wk.ex (T : Wk h0 K mg base) : stB K = true ∧ gcdB K = true ∧ (xl.all fun p => xclsB K p.1 p.2) = true ∧ il.all (insB K) = true ∧ kl.all (kiB K) = true ∧ (ml.all fun q => (Fa.exm q.1 q.2.1 q.2.2).ok K) = true ∧ il.all (neB K) = true ∧ nl.all (nfB K) = true := by
  obtain ⟨h1, h⟩ := ba (show K41.ex K = true from T.says.more)
  obtain ⟨h2, h⟩ := ba h
  obtain ⟨h3, h⟩ := ba h
  obtain ⟨h4, h⟩ := ba h
  obtain ⟨h5, h⟩ := ba h
  obtain ⟨h6, h⟩ := ba h
  obtain ⟨h7, h8⟩ := ba h
  exact ⟨h1, h2, h3, h4, h5, h6, h7, h8⟩
theorem m_gcd (T : Wk h0 K mg base) : mg "gcd" = some (.builtin "math.gcd") := PySem.W.mg_of T.kin T.glob (eqO_ok T.ex.2.1)
theorem insC (T : Wk h0 K mg base) {x : Str} (h : x ∈ il) : InsC K (ga K x) := ins_ok (List.all_eq_true.mp T.ex.2.2.2.1 x h)
instance kdDec : DecidableEq Kd := fun a b => match a, b with
  | .inl x, .inl y => if h : x = y then .isTrue (by rw [h]) else .isFalse (fun e => h (Sum.inl.inj e))
  | .inr x, .inr y => if h : x = y then .isTrue (by rw [h]) else .isFalse (fun e => h (Sum.inr.inj e))
  | .inl _, .inr _ => .isFalse (fun e => nomatch e)
  | .inr _, .inl _ => .isFalse (fun e => nomatch e)
theorem kit (T : Wk h0 K mg base) {q : Kd × Kd × Bool} (h : (kl.any fun p => decide (p = q)) = true) : PySem.W.kitOne K (kdV K q.1) (kdV K q.2.1) = some q.2.2 := by
  obtain ⟨p, hp, e⟩ := List.any_eq_true.mp h
  have e' := of_decide_eq_true e
  subst e'
  exact of_decide_eq_true (List.all_eq_true.mp T.ex.2.2.2.2.1 p hp)
theorem nfst (T : Wk h0 K mg base) {q : Str × Str} (h : q ∈ nl) : PySem.W.notFirst K (ga K q.1) (.ref (ga K q.2)) = true := List.all_eq_true.mp T.ex.2.2.2.2.2.2.2 q h
/-! is_row, is_integer: by the value's type -/
def sp_is_row (K : PySem.W.Frag) : Sp := fun vs H Q _ => ∃ x t b, vs = [x] ∧ TyX K H x t ∧ PySem.W.kitAny K t [.type "list", .type "tuple"] = some b ∧ ∀ H', Ex H H' → Q (.bl b) H'
theorem ok_is_row (T : Wk h0 K mg base) : ClC CX0 P w K mg base 1 "is_row" ["value"] (sp_is_row K) := by
  obtain ⟨fd, F⟩ := f_is_row T
  refine ⟨_, fd, g_is_row T, F.kp, F.bindsN (fun _ _ _ _ _ _ us hl => match us, hl with | [_], _ => rfl), F.ok sc_is_row (fun vs H Q E h => ?_) (fun cdv A outer s H vs Q E hr h => ⟨_, PSs.nox (pss_one (ps_ret (pe_callB call_isiT (by rfl) (m_isinstance T) boot_isinstance (pa_cons (pv 0) (pa_cons (pe_tup (pa_cons (pe_bltn (v := .ty "list") (by rfl) (m_list T) (by decide +kernel) rfl) (pa_cons (pe_bltn (v := .ty "tuple") (by rfl) (m_tuple T) (by decide +kernel) rfl) pa_nil))) pa_nil))))), ?_⟩)⟩
  · obtain ⟨x, t, b, rfl, _⟩ := h; rfl
  · obtain ⟨x, t, b, rfl, ty, hk, hQ⟩ := h
    exact s_ret (ev_isiT (ev_var rfl) (.ty _) (.ty _) ty hk) hQ
def sp_is_integer (K : PySem.W.Frag) : Sp := fun vs H Q _ => ∃ x t b c, vs = [x] ∧ TyX K H x t ∧ PySem.W.kitOne K t (.type "int") = some b ∧ PySem.W.kitOne K t (.type "bool") = some c ∧ ∀ H', Ex H H' → Q (.bl (b && !c)) H'
theorem ok_is_integer (T : Wk h0 K mg base) : ClC CX0 P w K mg base 1 "is_integer" ["value"] (sp_is_integer K) := by
  obtain ⟨fd, F⟩ := f_is_integer T
  refine ⟨_, fd, g_is_integer T, F.kp, F.bindsN (fun _ _ _ _ _ _ us hl => match us, hl with | [_], _ => rfl), F.ok sc_is_integer (fun vs H Q E h => ?_) (fun cdv A outer s H vs Q E hr h => ⟨_, PSs.nox (pss_one (ps_ret ((pe_and (pe_callB call_isi (by rfl) (m_isinstance T) boot_isinstance (pa_cons (pv 0) (pa_cons (pe_bltn (v := .ty "int") (by rfl) (m_int T) (by decide +kernel) rfl) pa_nil))) (pe_one (pe_not (pe_callB call_isi (by rfl) (m_isinstance T) boot_isinstance (pa_cons (pv 0) (pa_cons (pe_bltn (v := .ty "bool") (by rfl) (m_bool T) (by decide +kernel) rfl) pa_nil))))))))), ?_⟩)⟩
  · obtain ⟨x, t, b, c, rfl, _⟩ := h; rfl
  · obtain ⟨x, t, b, c, rfl, ty, hk, hk2, hQ⟩ := h
    exact s_ret (ev_andV (ev_isi (ev_var rfl) (.ty _) ty hk) fun _ => ev_notV (ev_isi (ev_var rfl) (.ty _) ty hk2)) hQ
/-! answers for data -/
def isRowD : PyData → Bool
  | .list _ => true
  | .tuple _ => true
  | _ => false
def isIntD : PyData → Bool
  | .int _ => true
  | _ => false
def itemsD : PyData → List PyData
  | .list ds => ds
  | .tuple ds => ds
  | _ => []
def isInts (d : PyData) : Bool := isRowD d && (itemsD d).all isIntD
theorem kit2 {s : String} {c1 c2 r : Bool} (h1 : kitB s "list" = some c1) (h2 : kitB s "tuple" = some c2) (e : (c1 || c2) = r) : PySem.W.kitAny K (.type s) [.type "list", .type "tuple"] = some r := by
  subst e
  refine kitAny_cons (kit_ty h1) (fun hc => kitAny_cons (kit_ty h2) (fun hc2 => ?_) (fun hc2 => ?_)) (fun hc => ?_)
  · rw [hc, hc2]; exact kitAny_nil
  · rw [hc2, Bool.or_true]
  · rw [hc, Bool.true_or]
theorem kit_row {v : V} {d : PyData} {H : Hp} (h : Dp K H v d) : PySem.W.kitAny K (.type (tyOf d)) [.type "list", .type "tuple"] = some (isRowD d) := by
  cases h with
  | non => exact kit2 (s := "NoneType") (c1 := false) (c2 := false) (by decide +kernel) (by decide +kernel) rfl
  | bl b => exact kit2 (s := "bool") (c1 := false) (c2 := false) (by decide +kernel) (by decide +kernel) rfl
  | int i => exact kit2 (s := "int") (c1 := false) (c2 := false) (by decide +kernel) (by decide +kernel) rfl
  | str x => exact kit2 (s := "str") (c1 := false) (c2 := false) (by decide +kernel) (by decide +kernel) rfl
  | lst _ _ => exact kit2 (s := "list") (c1 := true) (c2 := false) (by decide +kernel) (by decide +kernel) rfl
  | tup _ _ => exact kit2 (s := "tuple") (c1 := false) (c2 := true) (by decide +kernel) (by decide +kernel) rfl
theorem kit_int {v : V} {d : PyData} {H : Hp} (h : Dp K H v d) : ∃ b c, PySem.W.kitOne K (.type (tyOf d)) (.type "int") = some b ∧ PySem.W.kitOne K (.type (tyOf d)) (.type "bool") = some c ∧ (b && !c) = isIntD d := by
  cases h with
  | non => exact ⟨false, false, kit_ty (a := "NoneType") (by decide +kernel), kit_ty (a := "NoneType") (by decide +kernel), rfl⟩
  | bl b => exact ⟨true, true, kit_ty (a := "bool") (by decide +kernel), kit_ty (a := "bool") (by decide +kernel), rfl⟩
  | int i => exact ⟨true, false, kit_ty (a := "int") (by decide +kernel), kit_ty (a := "int") (by decide +kernel), rfl⟩
  | str x => exact ⟨false, false, kit_ty (a := "str") (by decide +kernel), kit_ty (a := "str") (by decide +kernel), rfl⟩
  | lst _ _ => exact ⟨false, false, kit_ty (a := "list") (by decide +kernel), kit_ty (a := "list") (by decide +kernel), rfl⟩
  | tup _ _ => exact ⟨false, false, kit_ty (a := "tuple") (by decide +kernel), kit_ty (a := "tuple") (by decide +kernel), rfl⟩
theorem sv_is_row {x : V} {d : PyData} {H : Hp} (h : Dp K H x d) : SpV (sp_is_row K) [x] H (.bl (isRowD d)) := fun H1 e Q q E => ⟨x, _, _, rfl, Dp.tyX (Dp.ex e h), kit_row h, q⟩
theorem sv_is_integer {x : V} {d : PyData} {H : Hp} (h : Dp K H x d) : SpV (sp_is_integer K) [x] H (.bl (isIntD d)) := fun H1 e Q q E => by
  obtain ⟨b, c, h1, h2, h3⟩ := kit_int h
  exact ⟨x, _, b, c, rfl, Dp.tyX (Dp.ex e h), h1, h2, fun H' e' => h3 ▸ q H' e'⟩
theorem ev_is_row {te : TE} {σ : L2.St} {x : V} {d : PyData} {H : Hp} (h : Ev te σ H x) (hd : Dp K H x d) : Ev (tCall (sp_is_row K) [] E0 (tCons te tNil)) σ H (.bl (isRowD d)) := ev_call0 (ea1 h) (sv_is_row hd)
theorem ev_is_integer {te : TE} {σ : L2.St} {x : V} {d : PyData} {H : Hp} (h : Ev te σ H x) (hd : Dp K H x d) : Ev (tCall (sp_is_integer K) [] E0 (tCons te tNil)) σ H (.bl (isIntD d)) := ev_call0 (ea1 h) (sv_is_integer hd)
theorem rowD_seq {d : PyData} (h : isRowD d = true) : ∃ b ds, d = seqD b ds ∧ itemsD d = ds := by
  cases d <;> first | exact ⟨false, _, rfl, rfl⟩ | exact ⟨true, _, rfl, rfl⟩ | cases h
/-! is_integers -/
def sp_is_integers (K : PySem.W.Frag) : Sp := fun vs H Q _ => ∃ x d, vs = [x] ∧ Dp K H x d ∧ (itemsD d).length ≤ 40000 ∧ ∀ H', Ex H H' → Q (.bl (isInts d)) H'
theorem ok_is_integers (T : Wk h0 K mg base) : ClC CX0 P w K mg base 2 "is_integers" ["value"] (sp_is_integers K) := by
  obtain ⟨fd, F⟩ := f_is_integers T
  refine ⟨_, fd, g_is_integers T, F.kp, F.bindsN (fun _ _ _ _ _ _ us hl => match us, hl with | [_], _ => rfl), F.ok sc_is_integers (fun vs H Q E h => ?_) (fun cdv A outer s H vs Q E hr h => ⟨_, PSs.nox (pss_one (ps_ret ((pe_and (pe_cl (ok_is_row T) hr (by decide) (by rfl) (pa_cons (pv 0) pa_nil)) (pe_one (pe_callB (cr_all rfl) (by rfl) (m_all T) boot_all (pa_cons (pe_lc (own := [("item", 1)]) (g := gName 1) rfl sc_is_integers.nd (pi_any (pv 0)) (blkOk_by (N := N_is_integers) (sc := defScope s_is_integers) (by decide +kernel)) (fun _ _ _ _ _ => (pg_name (i := 1) sc_is_integers.nd rfl (Or.inl rfl))) (fun _ _ _ _ _ => pts_nil) (fun _ _ _ _ _ => (pe_cl (ok_is_integer T) hr (by decide) (by rfl) (pa_cons (pv 1) pa_nil)))) pa_nil))))))), ?_⟩)⟩
  · obtain ⟨x, d, rfl, _⟩ := h; rfl
  · obtain ⟨x, d, rfl, hd, hl, hQ⟩ := h
    refine s_ret (ev_andV (ev_is_row (ev_var rfl) hd) fun hrow => ?_) hQ
    obtain ⟨b, ds, rfl, e⟩ := rowD_seq hrow
    rw [e] at hl ⊢
    obtain ⟨a, xs, rfl, sq, da⟩ := Dp.seq_inv hd
    have hlen := DpAll.length da
    refine ev_is (ev_all (bs := ds.map isIntD) (el_lcA (fun _ => true) (fun i => .bl (isIntD (ds.getD i .none))) (ev_var rfl) sq (by omega) (fun _ => rfl) (fun i x H1 _ _ => fun H2 _ Q q => q H2 (Ex.refl H2)) (fun i x H1 e1 hx _ => ?_)) ?_) ?_
    · obtain ⟨d', hd1, hd2⟩ := DpAll.get da hx
      have e2 : ds.getD i .none = d' := by rw [List.getD_eq_getElem?_getD, hd1]; rfl
      rw [e2]
      exact ev_is_integer (ev_var rfl) (Dp.ex e1 hd2)
    · rw [given_all, hlen, List.map_map]; exact range_getD (V.bl ∘ isIntD) .none ds
    · rw [List.all_map]; rfl
theorem ev_is_integers {te : TE} {σ : L2.St} {x : V} {d : PyData} {H : Hp} (h : Ev te σ H x) (hd : Dp K H x d) (hl : (itemsD d).length ≤ 40000) : Ev (tCall (sp_is_integers K) [] E0 (tCons te tNil)) σ H (.bl (isInts d)) :=
  ev_call0 (ea1 h) fun H1 e Q q E => ⟨x, d, rfl, Dp.ex e hd, hl, q⟩
theorem isInts_inv {d : PyData} (h : isInts d = true) : ∃ (b : Bool) (ns : List Int), d = seqD b (ns.map PyData.int) := by
  obtain ⟨h1, h2⟩ := ba h
  obtain ⟨b, ds, rfl, e⟩ := rowD_seq h1
  rw [e] at h2
  refine ⟨b, ds.map (fun d => match d with | .int i => i | _ => 0), ?_⟩
  congr 1
  rw [List.map_map]
  conv => lhs; rw [← List.map_id ds]
  apply List.map_congr_left
  intro d hd
  have := List.all_eq_true.mp h2 d hd
  cases d <;> first | rfl | cases this
end
end K41
set_option maxHeartbeats 0
/-! The walks: kept, characters. -/
namespace K41
open PySem PySem.Spec PyProof.Rows L2 He TC Evl
section
variable {P : Program} {w : World} {h0 base : Heap} {K : PySem.W.Frag} {mg : Str → Option Value}
/-! kept -/
def spA_kept (K : PySem.W.Frag) : Sp := fun vs H Q _ => ∃ i : Int, vs = [.int i] ∧ ∀ H', Ex H H' → Q (.int i) H'
def sp_kept (K : PySem.W.Frag) : Sp := fun vs H Q _ => ∃ (b : Bool) (a : Addr) (ns : List Int), vs = [.ref a] ∧ SqB K H b a (ns.map V.int) ∧ ns.length ≤ 40000 ∧ ∀ v H', Ex H H' → Dp K H' v (.tuple (ns.map PyData.int)) → Q v H'
theorem okA_kept (T : Wk h0 K mg base) : ClC CX0 P w K mg base 2 "kept" ["value"] (spA_kept K) := by
  obtain ⟨fd, F⟩ := f_kept T
  have ck : ClC CX0 P w K mg base 0 "kept" ["value"] (fun _ _ _ _ => False) := cl_never (g_kept T) F.kp (F.bindsN (fun _ _ _ _ _ _ us hl => match us, hl with | [_], _ => rfl))
  refine ⟨_, fd, g_kept T, F.kp, F.bindsN (fun _ _ _ _ _ _ us hl => match us, hl with | [_], _ => rfl), F.ok sc_kept (fun vs H Q E h => ?_) (fun cdv A outer s H vs Q E hr h => ⟨_, PSs.nox (pss_one (ps_ret (pe_ifExp (pt_val (pe_cl (ok_is_row T) hr (by decide) (by rfl) (pa_cons (pv 0) pa_nil))) (pe_callTy call_tuple_of (by rfl) (m_tuple T) (by decide +kernel) (pa_cons (pe_lc (own := [("item", 1)]) (g := gName 1) rfl sc_kept.nd (pi_any (pv 0)) (blkOk_by (N := N_kept) (sc := defScope s_kept) (by decide +kernel)) (fun _ _ _ _ _ => (pg_name (i := 1) sc_kept.nd rfl (Or.inl rfl))) (fun _ _ _ _ _ => pts_nil) (fun _ _ _ _ _ => (pe_cl ck hr (by decide) (by rfl) (pa_cons (pv 1) pa_nil)))) pa_nil)) (pv 0)))), ?_⟩)⟩
  · obtain ⟨i, rfl, _⟩ := h; rfl
  · obtain ⟨i, rfl, hQ⟩ := h
    exact s_ret (ev_if (et_B (ev_is_row (ev_var rfl) (.int i))) (fun h => by cases h) (fun _ => ev_var rfl)) hQ
theorem ok_kept (T : Wk h0 K mg base) : ClC CX0 P w K mg base 3 "kept" ["value"] (sp_kept K) := by
  obtain ⟨fd, F⟩ := f_kept T
  have ck : ClC CX0 P w K mg base 2 "kept" ["value"] (spA_kept K) := okA_kept T
  refine ⟨_, fd, g_kept T, F.kp, F.bindsN (fun _ _ _ _ _ _ us hl => match us, hl with | [_], _ => rfl), F.ok sc_kept (fun vs H Q E h => ?_) (fun cdv A outer s H vs Q E hr h => ⟨_, PSs.nox (pss_one (ps_ret (pe_ifExp (pt_val (pe_cl (ok_is_row T) hr (by decide) (by rfl) (pa_cons (pv 0) pa_nil))) (pe_callTy call_tuple_of (by rfl) (m_tuple T) (by decide +kernel) (pa_cons (pe_lc (own := [("item", 1)]) (g := gName 1) rfl sc_kept.nd (pi_any (pv 0)) (blkOk_by (N := N_kept) (sc := defScope s_kept) (by decide +kernel)) (fun _ _ _ _ _ => (pg_name (i := 1) sc_kept.nd rfl (Or.inl rfl))) (fun _ _ _ _ _ => pts_nil) (fun _ _ _ _ _ => (pe_cl ck hr (by decide) (by rfl) (pa_cons (pv 1) pa_nil)))) pa_nil)) (pv 0)))), ?_⟩)⟩
  · obtain ⟨b, a, ns, rfl, _⟩ := h; rfl
  · obtain ⟨b, a, ns, rfl, sq, hl, hQ⟩ := h
    have dp : Dp K H (.ref a) (seqD b (ns.map PyData.int)) := Dp.seq sq DpAll.ints
    have hrow : isRowD (seqD b (ns.map PyData.int)) = true := by cases b <;> rfl
    refine s_retP (P := fun v H' => Dp K H' v (.tuple (ns.map PyData.int))) (ep_if (et_B (ev_is_row (ev_var rfl) dp)) (fun _ => ?_) (fun h => by rw [hrow] at h; cases h)) (fun v H1 e p => hQ v H1 e p)
    refine (ep_tupleOf (b := false) (R := fun xs _ => xs = ns.map V.int) ((EvL.p (el_lcA (fun _ => true) (fun i => (ns.map V.int).getD i .non) (ev_var rfl) sq (by rw [List.length_map]; exact hl) (fun _ => rfl) (fun i x H1 _ _ => fun H2 _ Q q => q H2 (Ex.refl H2)) (fun i x H1 e1 hx _ => ?_))).imp fun v H1 _ ⟨p, e, hp⟩ => ⟨p, _, e, sq_of hp, ?_⟩) (fun _ _ _ _ z => z)).imp fun v H1 _ ⟨p, xs, e, hs, ex⟩ => ?_
    · have hx' := hx
      rw [List.getElem?_map] at hx'
      cases hn : ns[i]? with
      | none => rw [hn] at hx'; cases hx'
      | some n =>
        rw [hn] at hx'
        cases hx'
        have e2 : (ns.map V.int).getD i .non = .int n := by rw [List.getD_eq_getElem?_getD, hx]; rfl
        rw [e2]
        exact ev_call0 (ea1 (ev_var rfl)) fun H1 _ Q q E => ⟨n, rfl, q⟩
    · rw [given_all]; exact (range_getD (fun x => x) V.non (ns.map V.int)).trans (List.map_id _)
    · subst e ex
      exact Dp.tup hs DpAll.ints
/-! shares -/
def shGo (h : Int) : List Int → List Int
  | [] => []
  | n :: r => ((Nat.gcd h.natAbs n.natAbs : Nat) : Int) :: shGo ((Nat.gcd h.natAbs n.natAbs : Nat) : Int) r
def shares (ns : List Int) : List Int := shGo 0 ns
theorem shGo_len : ∀ (ns : List Int) (h : Int), (shGo h ns).length = ns.length
  | [], _ => rfl
  | n :: r, h => by show (shGo _ r).length + 1 = r.length + 1; rw [shGo_len r]
def sp_shares_of (K : PySem.W.Frag) : Sp := fun vs H Q _ => ∃ (b : Bool) (a : Addr) (ns : List Int), vs = [.ref a] ∧ SqB K H b a (ns.map V.int) ∧ ns.length ≤ 40000 ∧ RetL ((shares ns).map V.int) H Q
theorem ok_shares_of (T : Wk h0 K mg base) : ClC CX0 P w K mg base 1 "shares_of" ["row"] (sp_shares_of K) := by
  obtain ⟨fd, F⟩ := f_shares_of T
  refine ⟨_, fd, g_shares_of T, F.kp, F.bindsN (fun _ _ _ _ _ _ us hl => match us, hl with | [_], _ => rfl), F.ok sc_shares_of (fun vs H Q E h => ?_) (fun cdv A outer s H vs Q E hr h => ⟨_, PSs.nox (pss_cons (ps_par (i := 1) (j := 2) (by rfl) sc_shares_of.nd rfl rfl (by decide) rfl rfl (pa_cons (pe_lst pa_nil) (pa_cons (pe_int) pa_nil)) (by rfl)) (pss_cons (ps_for PassesOwn.never rfl (pi_any (pv 0)) (pg_name (i := 3) sc_shares_of.nd rfl (Or.inl rfl)) (pss_cons (ps_set (i := 2) sc_shares_of.nd rfl (Or.inl rfl) (pe_callBfun cr_gcd (by rfl) (m_gcd T) (pa_cons (pv 2) (pa_cons (pv 3) pa_nil)))) (pss_one (ps_expr (pe_bm PySem.F.plainAttrs_list PySem.F.slot_list_append PySem.F.type_list_append mt_append (pv 1) (pa_cons (pv 2) pa_nil)))))) (pss_one (ps_ret (pv 1))))), ?_⟩)⟩
  · obtain ⟨b, a, ns, rfl, _⟩ := h; rfl
  · obtain ⟨b, a, ns, rfl, sq, hl, hQ⟩ := h
    refine q_parL (el_lst ea_nil (by decide)) ev_c fun l H1 hl1 e1 h1 => ?_
    refine q_forA (b := b) (a := a) (xs := ns.map V.int) (ev_var rfl) (sq.ex e1) (fun i σ' H' => ∃ (acc : List Int) (here : Int) (it : Option V), σ' = [some (.ref a), some (.ref l), some (.int here), it] ∧ Ex H H' ∧ H' l = some (.lst (acc.map V.int)) ∧ shares ns = acc ++ shGo here (ns.drop i) ∧ acc.length = i)
      (fun H2 e2 => ⟨[], 0, none, rfl, e1.trans e2, e2 l _ h1, rfl, rfl⟩) (fun i σ' H' _ ⟨acc, here, it, _, e, _⟩ => sq.ex e) (fun i x σ' H' hx ⟨acc, here, it, es, e, hacc, hs, hal⟩ => ?_) (fun σ' H' ⟨acc, here, it, es, e, hacc, hs, hal⟩ => ?_)
    · subst es
      rw [List.getElem?_map] at hx
      cases hn : ns[i]? with
      | none => rw [hn] at hx; cases hx
      | some n =>
        rw [hn] at hx
        cases hx
        have hd : ns.drop i = n :: ns.drop (i + 1) := by
          obtain ⟨hlt, e3⟩ := List.getElem?_eq_some_iff.mp hn
          rw [← e3]; exact List.drop_eq_getElem_cons hlt
        have hlt : i < ns.length := (List.getElem?_eq_some_iff.mp hn).1
        refine q_asg (ev_gcd (ea2 (ev_var rfl) (ev_var rfl))) fun H2 e2 => ?_
        refine s_app (e2 l _ hacc) (ev_var rfl) (ev_var rfl) (by rw [List.length_map]; omega) fun H3 e3 => ?_
        refine ⟨acc ++ [((Nat.gcd here.natAbs n.natAbs : Nat) : Int)], _, _, rfl, Ex.mut ((e.trans e2).trans e3) hl1, ?_, ?_, by simp [hal]⟩
        · rw [List.map_append]; exact upd_same
        · rw [hs, hd, List.append_assoc]; rfl
    · subst es
      rw [List.length_map] at hs
      rw [List.drop_length] at hs
      have hs' : shares ns = acc := by rw [hs]; exact List.append_nil _
      refine s_ret (ev_var rfl) fun H2 e2 => hQ l H2 hl1 (e.trans e2) ?_
      rw [hs']
      exact e2 l _ hacc
theorem el_shares {te : TE} {σ : L2.St} {b : Bool} {a : Addr} {ns : List Int} {H : Hp} (h : Ev te σ H (.ref a)) (sq : SqB K H b a (ns.map V.int)) (hl : ns.length ≤ 40000) : EvL (tCall (sp_shares_of K) [] E0 (tCons te tNil)) σ H ((shares ns).map V.int) :=
  el_call (dvs := []) (ea1 h) fun H1 e Q q E => ⟨b, a, ns, rfl, sq.ex e, hl, fun p H2 hp e2 h2 => q p H2 hp e2 h2⟩
end
end K41
set_option maxHeartbeats 0
namespace K41
open PySem PySem.Spec PyProof.Rows L2 He TC Evl
abbrev PP : Program := (PySem.Challenge.rw_touchcurves_k41_whole_cables).prog
section
variable {w : World} {h0 base : Heap} {K : PySem.W.Frag} {mg : Str → Option Value}
theorem xls (T : Wk h0 K mg base) {p : Str × List Str} (h : p ∈ xl) : XCls K (ga K p.1) (ma K (ga K p.1) "__init__") p.2 := xcls_ok (List.all_eq_true.mp T.ex.2.2.1 p h)
theorem er_BadRow (T : Wk h0 K mg base) : ErTxt PP K (ga K "BadRow") (ma K (ga K "BadRow") "__init__") "value" :=
  ⟨xls T (p := ("BadRow", ["value"])) (by decide), fun w A R s mg mb a t0 v X hlim G hsup B hbb hx hnx hroom hq =>
    er_init (x := "value") (f := "value") (xls T (p := ("BadRow", ["value"])) (by decide)) (T.says.init 1 (p := ("BadRow", s_BadRow_init)) rfl) (eqO_ok T.ex.1) (by decide +kernel) (by decide +kernel) X hlim G hsup B hbb hx hnx hroom
      (fun _ _ _ _ _ _ => rfl) (fun _ _ _ _ _ _ _ => ⟨_, rfl⟩) rfl rfl rfl rfl rfl hq⟩
theorem er_BadCharacters (T : Wk h0 K mg base) : ErTxt PP K (ga K "BadCharacters") (ma K (ga K "BadCharacters") "__init__") "answer" :=
  ⟨xls T (p := ("BadCharacters", ["answer"])) (by decide), fun w A R s mg mb a t0 v X hlim G hsup B hbb hx hnx hroom hq =>
    er_init (x := "answer") (f := "answer") (xls T (p := ("BadCharacters", ["answer"])) (by decide)) (T.says.init 6 (p := ("BadCharacters", s_BadCharacters_init)) rfl) (eqO_ok T.ex.1) (by decide +kernel) (by decide +kernel) X hlim G hsup B hbb hx hnx hroom
      (fun _ _ _ _ _ _ => rfl) (fun _ _ _ _ _ _ _ => ⟨_, rfl⟩) rfl rfl rfl rfl rfl hq⟩
end
end K41
set_option maxHeartbeats 0
/-! The walks: classes, characters. -/
namespace K41
open PySem PySem.Spec PyProof.Rows L2 He TC Evl
section
variable {w : World} {h0 base : Heap} {K : PySem.W.Frag} {mg : Str → Option Value}
/-! Characters -/
def sp_Characters_init (K : PySem.W.Frag) : Sp := fun vs H Q _ => ∃ (x dx : Addr) (b : Bool) (a : Addr) (ns : List Int), vs = [.ref x, .ref a] ∧ H x = some (.ins (ga K "Characters") dx []) ∧ SqB K H b a (ns.map V.int) ∧ ns.length ≤ 40000 ∧ ∀ H' fs, ExX x H H' → H' x = some (.ins (ga K "Characters") dx fs) → Q .non H'
theorem ok_Characters_init (T : Wk h0 K mg base) : MkC CX0 PP w K mg base 4 "Characters" (ga K "Characters") ["self", "shares"] (sp_Characters_init K) := by
  obtain ⟨fd, F⟩ := f_Characters_init T
  refine ⟨_, fd, g_Characters T, k_Characters T, F.bindsN (fun _ _ _ _ _ _ us hl => match us, hl with | [_, _], _ => rfl), F.ok sc_Characters_init (fun vs H Q E h => ?_) (fun cdv A outer s H vs Q E hr h => ⟨_, PSs.nox (pss_one (ps_fld (pv 0) (pe_cl (ok_kept T) hr (by decide) (by rfl) (pa_cons (pv 1) pa_nil)) rfl)), ?_⟩)⟩
  · obtain ⟨x, dx, b, a, ns, rfl, _⟩ := h; rfl
  · obtain ⟨x, dx, b, a, ns, rfl, hx, sq, hl, hQ⟩ := h
    refine s_fld (P := fun _ _ => True) (ep_call (ea1 (ev_var rfl)) fun H1 e Q q E => ⟨b, a, ns, rfl, sq.ex e, hl, fun v H' e' _ => q v H' e' True.intro⟩) (ev_var rfl) hx (c_Characters T) (n_Characters_shares T) (by decide) fun v H1 H2 e1 e2 _ => ?_
    exact hQ _ _ ((ExX.of (e1.trans e2)).trans ExX.upd) upd_same
theorem mk_Characters {H : Hp} {b : Bool} {a : Addr} {ns : List Int} (sq : SqB K H b a (ns.map V.int)) (hl : ns.length ≤ 40000) : SpMk (sp_Characters_init K) [.ref a] H (ga K "Characters") (fun x H' => ∃ dx fs, H' x = some (.ins (ga K "Characters") dx fs)) :=
  fun H1 e x dx nx nd ne Q E q => ⟨x, dx, b, a, ns, rfl, upd_same, sq.ex (e.trans (ex_mk nx nd ne)), hl, fun H' fs e' h => q H' e' ⟨dx, fs, h⟩⟩
/-! NoCharacters, NoCable -/
def sp_No_init (C : Addr) : Sp := fun vs H Q _ => ∃ (x dx : Addr) (v1 v2 : V), vs = [.ref x, v1, v2] ∧ H x = some (.ins C dx []) ∧ ∀ H', ExX x H H' → H' x = some (.ins C dx [("why", v1), ("index", v2)]) → Q .non H'
theorem mk_No {H : Hp} {C : Addr} {v1 v2 : V} : SpMk (sp_No_init C) [v1, v2] H C (fun x H' => ∃ dx, H' x = some (.ins C dx [("why", v1), ("index", v2)])) :=
  fun H1 e x dx nx nd ne Q E q => ⟨x, dx, v1, v2, rfl, upd_same, fun H' e' h => q H' e' ⟨dx, h⟩⟩
theorem ok_NoCharacters_init (T : Wk h0 K mg base) : MkC CX0 PP w K mg base 1 "NoCharacters" (ga K "NoCharacters") ["self", "why", "index"] (sp_No_init (ga K "NoCharacters")) := by
  obtain ⟨fd, F⟩ := f_NoCharacters_init T
  refine ⟨_, fd, g_NoCharacters T, k_NoCharacters T, F.bindsN (fun _ _ _ _ _ _ us hl => match us, hl with | [_, _, _], _ => rfl), F.ok sc_NoCharacters_init (fun vs H Q E h => ?_) (fun cdv A outer s H vs Q E hr h => ⟨_, PSs.nox (pss_cons (ps_fld (pv 0) (pv 1) rfl) (pss_one (ps_fld (pv 0) (pv 2) rfl))), ?_⟩)⟩
  · obtain ⟨x, dx, v1, v2, rfl, _⟩ := h; rfl
  · obtain ⟨x, dx, v1, v2, rfl, hx, hQ⟩ := h
    refine q_fld (Ev.p (ev_var rfl)) (ev_var rfl) hx (c_NoCharacters T) (n_NoCharacters_why T) (by decide) fun v H1 H2 e1 e2 ev => ?_
    subst ev
    refine s_fld (Ev.p (ev_var rfl)) (ev_var rfl) upd_same (c_NoCharacters T) (n_NoCharacters_index T) (by show (1 : Nat) < 1000; decide) fun v H3 H4 e3 e4 ev => ?_
    subst ev
    exact hQ _ ((((ExX.of (e1.trans e2)).trans ExX.upd).trans (ExX.of (e3.trans e4))).trans ExX.upd) upd_same
theorem ok_NoCable_init (T : Wk h0 K mg base) : MkC CX0 PP w K mg base 1 "NoCable" (ga K "NoCable") ["self", "why", "index"] (sp_No_init (ga K "NoCable")) := by
  obtain ⟨fd, F⟩ := f_NoCable_init T
  refine ⟨_, fd, g_NoCable T, k_NoCable T, F.bindsN (fun _ _ _ _ _ _ us hl => match us, hl with | [_, _, _], _ => rfl), F.ok sc_NoCable_init (fun vs H Q E h => ?_) (fun cdv A outer s H vs Q E hr h => ⟨_, PSs.nox (pss_cons (ps_fld (pv 0) (pv 1) rfl) (pss_one (ps_fld (pv 0) (pv 2) rfl))), ?_⟩)⟩
  · obtain ⟨x, dx, v1, v2, rfl, _⟩ := h; rfl
  · obtain ⟨x, dx, v1, v2, rfl, hx, hQ⟩ := h
    refine q_fld (Ev.p (ev_var rfl)) (ev_var rfl) hx (c_NoCable T) (n_NoCable_why T) (by decide) fun v H1 H2 e1 e2 ev => ?_
    subst ev
    refine s_fld (Ev.p (ev_var rfl)) (ev_var rfl) upd_same (c_NoCable T) (n_NoCable_index T) (by show (1 : Nat) < 1000; decide) fun v H3 H4 e3 e4 ev => ?_
    subst ev
    exact hQ _ ((((ExX.of (e1.trans e2)).trans ExX.upd).trans (ExX.of (e3.trans e4))).trans ExX.upd) upd_same
/-! CableOf -/
def tupD : PyData → PyData
  | .list ds => .tuple ds
  | d => d
def sp_CableOf_init (K : PySem.W.Frag) : Sp := fun vs H Q _ => ∃ (x dx : Addr) (v : V) (d : PyData), vs = [.ref x, v] ∧ H x = some (.ins (ga K "CableOf") dx []) ∧ Dp K H v d ∧ ∀ H' v', ExX x H H' → H' x = some (.ins (ga K "CableOf") dx [("row", v')]) → Dp K H' v' (tupD d) → Q .non H'
theorem tupD_not {d : PyData} (h : isRowD d = false) : tupD d = d := by
  cases d <;> first | rfl | cases h
theorem ok_CableOf_init (T : Wk h0 K mg base) : MkC CX0 PP w K mg base 2 "CableOf" (ga K "CableOf") ["self", "row"] (sp_CableOf_init K) := by
  obtain ⟨fd, F⟩ := f_CableOf_init T
  refine ⟨_, fd, g_CableOf T, k_CableOf T, F.bindsN (fun _ _ _ _ _ _ us hl => match us, hl with | [_, _], _ => rfl), F.ok sc_CableOf_init (fun vs H Q E h => ?_) (fun cdv A outer s H vs Q E hr h => ⟨_, PSs.nox (pss_one (ps_fld (pv 0) (pe_ifExp (pt_val (pe_cl (ok_is_row T) hr (by decide) (by rfl) (pa_cons (pv 1) pa_nil))) (pe_callTy call_tuple_of (by rfl) (m_tuple T) (by decide +kernel) (pa_cons (pv 1) pa_nil)) (pv 1)) rfl)), ?_⟩)⟩
  · obtain ⟨x, dx, v, d, rfl, _⟩ := h; rfl
  · obtain ⟨x, dx, v, d, rfl, hx, hd, hQ⟩ := h
    refine s_fld (P := fun v H1 => Dp K H1 v (tupD d)) (ep_if (et_B (ev_is_row (ev_var rfl) hd)) (fun hr => ?_) (fun hr => ?_)) (ev_var rfl) hx (c_CableOf T) (n_CableOf_row T) (by decide) fun v' H1 H2 e1 e2 hv => ?_
    · obtain ⟨b, ds, rfl, _⟩ := rowD_seq hr
      obtain ⟨a, xs, rfl, sq, da⟩ := Dp.seq_inv hd
      refine (ep_tupleOf (b := b) (R := fun xs H1 => DpAll K H1 xs ds) ((Ev.p (ev_var rfl)).imp fun v H1 e ev => ⟨a, xs, ev, sq.ex e, DpAll.ex e da⟩) (fun _ _ _ e z => DpAll.ex e z)).imp fun v H1 _ ⟨p, xs, e, hs, hx⟩ => ?_
      subst e
      have : tupD (seqD b ds) = .tuple ds := by cases b <;> rfl
      rw [this]
      exact Dp.tup hs hx
    · rw [tupD_not hr]
      exact (Ev.p (ev_var rfl)).imp fun v' H1 e ev => ev ▸ Dp.ex e hd
    · exact hQ _ v' ((ExX.of (e1.trans e2)).trans ExX.upd) upd_same (Dp.exX ((e1.trans e2) _ _ hx) ExX.upd (Dp.ex e2 hv))
theorem mk_CableOf {H : Hp} {v : V} {d : PyData} (hd : Dp K H v d) : SpMk (sp_CableOf_init K) [v] H (ga K "CableOf") (fun x H' => ∃ dx v', H' x = some (.ins (ga K "CableOf") dx [("row", v')]) ∧ Dp K H' v' (tupD d)) :=
  fun H1 e x dx nx nd ne Q E q => ⟨x, dx, v, d, rfl, upd_same, Dp.ex (e.trans (ex_mk nx nd ne)) hd, fun H' v' e' h h2 => q H' e' ⟨dx, v', h, h2⟩⟩
/-! == -/
theorem eqC (T : Wk h0 K mg base) {x : Str} (h : x ∈ il) (m : Meth K (ga K x) "__eq__" (ma K (ga K x) "__eq__")) : EqC K (ga K x) (ma K (ga K x) "__eq__") :=
  ⟨(insC T h).cl, (insC T h).hm, m.1, eqO_ok (List.all_eq_true.mp T.ex.2.2.2.2.2.2.1 x h), m.2⟩
def sp_CableOf_eq (K : PySem.W.Frag) : Sp := fun vs H Q _ => ∃ (x y dx dy D : Addr) (fs gs : List (Str × V)) (r : Bool), vs = [.ref x, .ref y] ∧ H x = some (.ins (ga K "CableOf") dx fs) ∧ H y = some (.ins D dy gs) ∧
  ((D = ga K "CableOf" ∧ ∃ v u d e, fs = [(("row" : Str), v)] ∧ gs = [(("row" : Str), u)] ∧ Dp K H v d ∧ Dp K H u e ∧ SeqAt.shaped d = true ∧ SeqAt.shaped e = true ∧ r = PyData.eqv d e) ∨ (D = ga K "NoCable" ∧ r = false)) ∧ ∀ H', Ex H H' → Q (.bl r) H'
theorem ok_CableOf_eq (T : Wk h0 K mg base) : EqK PP w K mg base 1 (ma K (ga K "CableOf") "__eq__") ["self", "other"] (sp_CableOf_eq K) := by
  obtain ⟨fd, F⟩ := f_CableOf_eq T
  refine ⟨fd, F.bindsN (fun _ _ _ _ _ _ us hl => match us, hl with | [_, _], _ => rfl), F.ok sc_CableOf_eq (fun vs H Q E h => ?_) (fun cdv A outer s H vs Q E hr h => ⟨_, PSs.nox (pss_one (ps_ret ((pe_and (pe_callB call_isi (by rfl) (m_isinstance T) boot_isinstance (pa_cons (pv 1) (pa_cons (pe_glob (v := .ref (ga K "CableOf")) (by rfl) (g_CableOf T) rfl) pa_nil))) (pe_one (pe_cmpR (op_eqD (hu64 hr)) (pe_fld (pv 0) rfl) (pe_fld (pv 1) rfl) (nomark _))))))), ?_⟩)⟩
  · obtain ⟨x, y, dx, dy, D, fs, gs, r, rfl, _⟩ := h; rfl
  · obtain ⟨x, y, dx, dy, D, fs, gs, r, rfl, hx, hy, hc, hQ⟩ := h
    rcases hc with ⟨rfl, v, u, d, e, rfl, rfl, hd, he, s1, s2, rfl⟩ | ⟨rfl, rfl⟩
    · exact s_ret (v := .bl (true && PyData.eqv d e)) (ev_andV (ev_isi (ev_var rfl) (.own _) (InsC.ty (insC T (x := "CableOf") (by decide)) hy) (kit T (q := (.inr "CableOf", .inr "CableOf", true)) (by decide))) fun _ => ev_eqD (ev_fld (ev_var rfl) hx (c_CableOf T) (n_CableOf_row T) rfl) (ev_fld (ev_var rfl) hy (c_CableOf T) (n_CableOf_row T) rfl) hd he s1 s2) hQ
    · exact s_ret (v := .bl (false && false)) (ev_andV (ev_isi (ev_var rfl) (.own _) (InsC.ty (insC T (x := "NoCable") (by decide)) hy) (kit T (q := (.inr "NoCable", .inr "CableOf", false)) (by decide))) fun h => by cases h) hQ
def sp_No_eq (K : PySem.W.Frag) (C : Addr) : Sp := fun vs H Q _ => ∃ (x y dx dy : Addr) (v1 v2 u1 u2 : V) (d1 d2 e1 e2 : PyData), vs = [.ref x, .ref y] ∧ H x = some (.ins C dx [("why", v1), ("index", v2)]) ∧ H y = some (.ins C dy [("why", u1), ("index", u2)]) ∧
  Dp K H v1 d1 ∧ Dp K H v2 d2 ∧ Dp K H u1 e1 ∧ Dp K H u2 e2 ∧ SeqAt.shaped (.tuple [d1, d2]) = true ∧ SeqAt.shaped (.tuple [e1, e2]) = true ∧ ∀ H', Ex H H' → Q (.bl (PyData.eqv (.tuple [d1, d2]) (.tuple [e1, e2]))) H'
theorem ep_pair {ta tb : TE} {σ : L2.St} {H : Hp} {v1 v2 : V} {d1 d2 : PyData} (h1 : Ev ta σ H v1) (h2 : Ev tb σ H v2) (p1 : Dp K H v1 d1) (p2 : Dp K H v2 d2) : EvP (tTup (tCons ta (tCons tb tNil))) σ H (fun v H1 => Dp K H1 v (.tuple [d1, d2])) :=
  (EvU.p (eu_tup (ea2 h1 h2) (by show (2 : Nat) ≤ 100000; decide))).imp fun v H1 e ⟨a, ev, ha⟩ => ev ▸ Dp.tup (st_of ha) (.cons (Dp.ex e p1) (.cons (Dp.ex e p2) .nil))
theorem ok_NoCharacters_eq (T : Wk h0 K mg base) : EqK PP w K mg base 1 (ma K (ga K "NoCharacters") "__eq__") ["self", "other"] (sp_No_eq K (ga K "NoCharacters")) := by
  obtain ⟨fd, F⟩ := f_NoCharacters_eq T
  refine ⟨fd, F.bindsN (fun _ _ _ _ _ _ us hl => match us, hl with | [_, _], _ => rfl), F.ok sc_NoCharacters_eq (fun vs H Q E h => ?_) (fun cdv A outer s H vs Q E hr h => ⟨_, PSs.nox (pss_one (ps_ret ((pe_and (pe_callB call_isi (by rfl) (m_isinstance T) boot_isinstance (pa_cons (pv 1) (pa_cons (pe_glob (v := .ref (ga K "NoCharacters")) (by rfl) (g_NoCharacters T) rfl) pa_nil))) (pe_one (pe_cmpR (op_eqD (hu64 hr)) (pe_tup (pa_cons (pe_fld (pv 0) rfl) (pa_cons (pe_fld (pv 0) rfl) pa_nil))) (pe_tup (pa_cons (pe_fld (pv 1) rfl) (pa_cons (pe_fld (pv 1) rfl) pa_nil))) (nomark _))))))), ?_⟩)⟩
  · obtain ⟨x, y, dx, dy, v1, v2, u1, u2, d1, d2, e1, e2, rfl, _⟩ := h; rfl
  · obtain ⟨x, y, dx, dy, v1, v2, u1, u2, d1, d2, e1, e2, rfl, hx, hy, p1, p2, p3, p4, s1, s2, hQ⟩ := h
    exact s_ret (v := .bl (true && PyData.eqv (.tuple [d1, d2]) (.tuple [e1, e2]))) (ev_andV (ev_isi (ev_var rfl) (.own _) (InsC.ty (insC T (x := "NoCharacters") (by decide)) hy) (kit T (q := (.inr "NoCharacters", .inr "NoCharacters", true)) (by decide)))
      fun _ => ep_eqD (ep_pair (ev_fld (ev_var rfl) hx (c_NoCharacters T) (n_NoCharacters_why T) rfl) (ev_fld (ev_var rfl) hx (c_NoCharacters T) (n_NoCharacters_index T) rfl) p1 p2) (ep_pair (ev_fld (ev_var rfl) hy (c_NoCharacters T) (n_NoCharacters_why T) rfl) (ev_fld (ev_var rfl) hy (c_NoCharacters T) (n_NoCharacters_index T) rfl) p3 p4) s1 s2) hQ
theorem ok_NoCable_eq (T : Wk h0 K mg base) : EqK PP w K mg base 1 (ma K (ga K "NoCable") "__eq__") ["self", "other"] (sp_No_eq K (ga K "NoCable")) := by
  obtain ⟨fd, F⟩ := f_NoCable_eq T
  refine ⟨fd, F.bindsN (fun _ _ _ _ _ _ us hl => match us, hl with | [_, _], _ => rfl), F.ok sc_NoCable_eq (fun vs H Q E h => ?_) (fun cdv A outer s H vs Q E hr h => ⟨_, PSs.nox (pss_one (ps_ret ((pe_and (pe_callB call_isi (by rfl) (m_isinstance T) boot_isinstance (pa_cons (pv 1) (pa_cons (pe_glob (v := .ref (ga K "NoCable")) (by rfl) (g_NoCable T) rfl) pa_nil))) (pe_one (pe_cmpR (op_eqD (hu64 hr)) (pe_tup (pa_cons (pe_fld (pv 0) rfl) (pa_cons (pe_fld (pv 0) rfl) pa_nil))) (pe_tup (pa_cons (pe_fld (pv 1) rfl) (pa_cons (pe_fld (pv 1) rfl) pa_nil))) (nomark _))))))), ?_⟩)⟩
  · obtain ⟨x, y, dx, dy, v1, v2, u1, u2, d1, d2, e1, e2, rfl, _⟩ := h; rfl
  · obtain ⟨x, y, dx, dy, v1, v2, u1, u2, d1, d2, e1, e2, rfl, hx, hy, p1, p2, p3, p4, s1, s2, hQ⟩ := h
    exact s_ret (v := .bl (true && PyData.eqv (.tuple [d1, d2]) (.tuple [e1, e2]))) (ev_andV (ev_isi (ev_var rfl) (.own _) (InsC.ty (insC T (x := "NoCable") (by decide)) hy) (kit T (q := (.inr "NoCable", .inr "NoCable", true)) (by decide)))
      fun _ => ep_eqD (ep_pair (ev_fld (ev_var rfl) hx (c_NoCable T) (n_NoCable_why T) rfl) (ev_fld (ev_var rfl) hx (c_NoCable T) (n_NoCable_index T) rfl) p1 p2) (ep_pair (ev_fld (ev_var rfl) hy (c_NoCable T) (n_NoCable_why T) rfl) (ev_fld (ev_var rfl) hy (c_NoCable T) (n_NoCable_index T) rfl) p3 p4) s1 s2) hQ
end
end K41
set_option maxHeartbeats 0
/-! The walks: the breach of characters, need, settle. -/
namespace K41
open PySem PySem.Spec PyProof.Rows L2 He TC Evl
/-! the plain function -/
def chBreach (ns : List Int) : Option (Str × Int) :=
  if (ns.length == 0 || !(decide (1 ≤ ns.getD 0 0) && decide (ns.getD 0 0 ≤ 60))) = true then some ("first", 0)
  else if 5 < ns.length then some ("long", 5)
  else match fst (fun i => decide (ns.getD i 0 ≤ ns.getD (i - 1) 0)) 1 (ns.length - 1) with
    | some i => some ("rises", (i : Nat))
    | none => match fst (fun i => decide (400 < ns.getD i 0)) 0 ns.length with
      | some i => some ("great", (i : Nat))
      | none => match fst (fun i => (shares ns).getD i 0 == (shares ns).getD (i - 1) 0) 1 (ns.length - 1) with
        | some i => some ("shares", (i : Nat))
        | none => if (shares ns).getD (ns.length - 1) 0 = 1 then none else some ("end", (ns.length : Int) - 1)
def brD : Option (Str × Int) → PyData
  | none => .none
  | some (s, i) => .tuple [.str s, .int i]
section
variable {w : World} {h0 base : Heap} {K : PySem.W.Frag} {mg : Str → Option Value}
theorem s_retBr {σ : L2.St} {H : Hp} {D : Ends} {te : TE} {s : Str} {i : Int} (h : Ev te σ H (.int i)) (k : ∀ v H1, Ex H H1 → Dp K H1 v (brD (some (s, i))) → D.rt v H1) : tRet (tTup (tCons (tC (.str s)) (tCons te tNil))) D σ H :=
  s_retP (ep_pair (d1 := .str s) (d2 := .int i) ev_c h (.str s) (.int i)) k
def sp_characters_breach (K : PySem.W.Frag) : Sp := fun vs H Q _ => ∃ (b : Bool) (a : Addr) (ns : List Int), vs = [.ref a] ∧ SqB K H b a (ns.map V.int) ∧ ns.length ≤ 40000 ∧ ∀ v H', Ex H H' → Dp K H' v (brD (chBreach ns)) → Q v H'
theorem ok_characters_breach (T : Wk h0 K mg base) : ClC CX0 PP w K mg base 2 "characters_breach" ["row"] (sp_characters_breach K) := by
  obtain ⟨fd, F⟩ := f_characters_breach T
  refine ⟨_, fd, g_characters_breach T, F.kp, F.bindsN (fun _ _ _ _ _ _ us hl => match us, hl with | [_], _ => rfl), F.ok sc_characters_breach (fun vs H Q E h => ?_) (fun cdv A outer s H vs Q E hr h => ⟨_, PSs.nox (pss_cons (ps_if (PW.pt (pw_or (pt_cmpR (op_eq) (pe_callB call_len_seq (by rfl) (m_len T) boot_len (pa_cons (pv 0) pa_nil)) (pe_int) (nomark _)) (pw_or1 (pt_not (pt_chain op_le op_le (pe_int) (pe_ix ix_seq (pv 0) (pe_int) (fun _ _ => rfl)) (pe_gcI (by rfl) (i_MOST_FIRST T))))))) (pss_one (ps_ret (pe_tup (pa_cons (pe_str) (pa_cons (pe_int) pa_nil))))) pss_nil) (pss_cons (ps_if (pt_cmpR (op_gt) (pe_callB call_len_seq (by rfl) (m_len T) boot_len (pa_cons (pv 0) pa_nil)) (pe_gcI (by rfl) (i_MOST_LENGTH T)) (nomark _)) (pss_one (ps_ret (pe_tup (pa_cons (pe_str) (pa_cons (pe_gcI (by rfl) (i_MOST_LENGTH T)) pa_nil))))) pss_nil) (pss_cons (ps_for PassesOwn.never rfl (pi_range2 (by rfl) (m_range T) (pa_cons (pe_int) (pa_cons (pe_callB call_len_seq (by rfl) (m_len T) boot_len (pa_cons (pv 0) pa_nil)) pa_nil))) (pg_name (i := 1) sc_characters_breach.nd rfl (Or.inl rfl)) (pss_one (ps_if (pt_cmpR (op_le) (pe_ix ix_seq (pv 0) (pv 1) (fun _ _ => rfl)) (pe_ix ix_seq (pv 0) (pe_op op_sub (pv 1) (pe_int)) (fun _ _ => rfl)) (nomark _)) (pss_one (ps_ret (pe_tup (pa_cons (pe_str) (pa_cons (pv 1) pa_nil))))) pss_nil))) (pss_cons (ps_for PassesOwn.never rfl (pi_enumA (by rfl) (m_enumerate T) (pa_cons (pv 0) pa_nil)) (pg_tup rfl (pgs_cons (pg_name (i := 1) sc_characters_breach.nd rfl (Or.inl rfl)) (pgs_cons (pg_name (i := 2) sc_characters_breach.nd rfl (Or.inl rfl)) pgs_nil))) (pss_one (ps_if (pt_cmpR (op_gt) (pv 2) (pe_gcI (by rfl) (i_MOST_ITEM T)) (nomark _)) (pss_one (ps_ret (pe_tup (pa_cons (pe_str) (pa_cons (pv 1) pa_nil))))) pss_nil))) (pss_cons (ps_set (i := 3) sc_characters_breach.nd rfl (Or.inl rfl) (pe_cl (ok_shares_of T) hr (by decide) (by rfl) (pa_cons (pv 0) pa_nil))) (pss_cons (ps_for PassesOwn.never rfl (pi_range2 (by rfl) (m_range T) (pa_cons (pe_int) (pa_cons (pe_callB call_len_seq (by rfl) (m_len T) boot_len (pa_cons (pv 0) pa_nil)) pa_nil))) (pg_name (i := 1) sc_characters_breach.nd rfl (Or.inl rfl)) (pss_one (ps_if (pt_cmpR (op_eq) (pe_ix ix_seq (pv 3) (pv 1) (fun _ _ => rfl)) (pe_ix ix_seq (pv 3) (pe_op op_sub (pv 1) (pe_int)) (fun _ _ => rfl)) (nomark _)) (pss_one (ps_ret (pe_tup (pa_cons (pe_str) (pa_cons (pv 1) pa_nil))))) pss_nil))) (pss_one (ps_ret (pe_ifExp (pt_cmpR (op_eq) (pe_ix ix_seq (pv 3) (pe_un un_neg (pe_int)) (fun _ _ => rfl)) (pe_int) (nomark _)) (pe_non) (pe_tup (pa_cons (pe_str) (pa_cons (pe_op op_sub (pe_callB call_len_seq (by rfl) (m_len T) boot_len (pa_cons (pv 0) pa_nil)) (pe_int)) pa_nil)))))))))))), ?_⟩)⟩
  · obtain ⟨b, a, ns, rfl, _⟩ := h; rfl
  · obtain ⟨b, a, ns, rfl, sq, hl, hQ⟩ := h
    have hlen : (ns.map V.int).length = ns.length := List.length_map ..
    have lenE : ∀ {σ : L2.St} {te : TE} {H1 : Hp}, Ex H H1 → Ev te σ H1 (.ref a) → Ev (tCB (rLenA K) (tCons te tNil)) σ H1 (.int (ns.length : Int)) := fun {σ te H1} e h => ev_is (ev_lenA h (sq.ex e)) (by rw [hlen])
    have item : ∀ {σ : L2.St} {te ti : TE} {H1 : Hp} {i : Nat}, Ex H H1 → i < ns.length → Ev te σ H1 (.ref a) → Ev ti σ H1 (.int (i : Int)) → Ev (tOp (rIxA K) te ti) σ H1 (.int (ns.getD i 0)) := fun {σ te ti H1 i} e hi h h2 => ev_ixA h h2 (sq.ex e) (atI_int hi)
    refine q_when (b := ns.length == 0 || !(decide (1 ≤ ns.getD 0 0) && decide (ns.getD 0 0 ≤ 60))) ?_ (fun hb H1 e1 => ?_) (fun hb H1 e1 => ?_)
    · have e0 : (ns.length == 0) = decide (V.int (ns.length : Int) = V.int 0) := by
        rw [dec_int]
        by_cases h : ns.length = 0
        · rw [h]; rfl
        · have h1 : (ns.length == 0) = false := beq_eq_false_iff_ne.mpr h
          have h2 : ((ns.length : Int) == 0) = false := beq_eq_false_iff_ne.mpr (by omega)
          rw [h1, h2]
      rw [e0]
      refine et_or (et_test (ev_op (lenE (Ex.refl H) (ev_var rfl)) ev_c (rv_eq rfl))) fun hz => et_not (et_test (ev_chain ev_c (item (i := 0) (Ex.refl H) ?_ (ev_var rfl) ev_c) ev_c))
      have : V.int (ns.length : Int) ≠ V.int 0 := of_decide_eq_false hz
      have h2 : (ns.length : Int) ≠ 0 := fun z => this (by rw [z])
      omega
    · exact s_retBr ev_c fun v H2 e2 hv => hQ v H2 (e1.trans e2) (by unfold chBreach; rw [if_pos hb]; exact hv)
    have u1 : chBreach ns = (if 5 < ns.length then some (("long" : Str), (5 : Int))
  else match fst (fun i => decide (ns.getD i 0 ≤ ns.getD (i - 1) 0)) 1 (ns.length - 1) with
    | some i => some ("rises", (i : Nat))
    | none => match fst (fun i => decide (400 < ns.getD i 0)) 0 ns.length with
      | some i => some ("great", (i : Nat))
      | none => match fst (fun i => (shares ns).getD i 0 == (shares ns).getD (i - 1) 0) 1 (ns.length - 1) with
        | some i => some ("shares", (i : Nat))
        | none => if (shares ns).getD (ns.length - 1) 0 = 1 then (none : Option (Str × Int)) else some (("end" : Str), (ns.length : Int) - 1)) := by
      unfold chBreach; rw [if_neg (by rw [hb]; exact Bool.false_ne_true)]
    have hpos : 0 < ns.length := by
      rcases Nat.eq_zero_or_pos ns.length with h | h
      · rw [h] at hb; cases hb
      · exact h
    refine q_when (b := decide ((5 : Int) < (ns.length : Int))) (et_test (ev_op (lenE e1 (ev_var rfl)) ev_c rv_I0)) (fun hb2 H2 e2 => ?_) (fun hb2 H2 e2 => ?_)
    · have h5 : 5 < ns.length := by have := of_decide_eq_true hb2; omega
      exact s_retBr ev_c fun v H3 e3 hv => hQ v H3 ((e1.trans e2).trans e3) (by rw [u1, if_pos h5]; exact hv)
    have n5 : ¬ 5 < ns.length := by have := of_decide_eq_false hb2; omega
    rw [if_neg n5] at u1
    have E2 := e1.trans e2
    have prev : ∀ {σ : L2.St} {te : TE} {H1 : Hp} {i : Nat}, 1 ≤ i → Ev te σ H1 (.int (i : Int)) → Ev (tOp (rI0 fun i j => .int (i - j)) te (tC (.int 1))) σ H1 (.int ((i - 1 : Nat) : Int)) := fun {σ te H1 i} h1 h => ev_is (ev_op h ev_c rv_I0) (by congr 1; omega)
    refine q_firstR (lo := 1) (n := ns.length) (p := fun i => decide (ns.getD i 0 ≤ ns.getD (i - 1) 0)) (ea2 ev_c (lenE E2 (ev_var rfl))) (by decide) (by omega) (fun i H3 e3 h1 h2 => ?_) (fun i H3 D' hD e3 h1 h2 hf => ?_) (fun σ' H3 e3 hσ hf => ?_)
    · exact et_test (ev_op (item (E2.trans e3) h2 (ev_var rfl) (ev_var rfl)) (item (E2.trans e3) (by omega) (ev_var rfl) (prev h1 (ev_var rfl))) rv_I0)
    · exact s_retBr (ev_var rfl) fun v H4 e4 hv => by rw [hD]; exact hQ v H4 ((E2.trans e3).trans e4) (by rw [u1, hf]; exact hv)
    rw [hf] at u1
    have hv0 : σ'[0]? = some (some (.ref a)) := hσ.get (by decide)
    have E3 := E2.trans e3
    have s2 : ∀ {u v : Option V}, ((σ'.set 1 u).set 2 v)[2]? = some v := fun {u v} => by
      rcases hσ with rfl | ⟨z, rfl⟩ <;> rfl
    have s1 : ∀ {u v : Option V}, ((σ'.set 1 u).set 2 v)[1]? = some u := fun {u v} => by
      rcases hσ with rfl | ⟨z, rfl⟩ <;> rfl
    refine q_firstE (b := b) (a := a) (xs := ns.map V.int) (p := fun i => decide (400 < ns.getD i 0)) (ea1 (ev_var hv0)) (sq.ex E3) (fun k x H4 e4 hx => ?_) (fun k x H4 D' hD e4 hx hf => ?_) (fun σ'' H4 e4 hσ2 hf => ?_) (by decide)
    · rw [List.getElem?_map] at hx
      cases hn : ns[k]? with
      | none => rw [hn] at hx; cases hx
      | some n =>
        rw [hn] at hx
        cases hx
        have e5 : ns.getD k 0 = n := by rw [List.getD_eq_getElem?_getD, hn]; rfl
        rw [e5]
        exact et_test (ev_op (ev_var s2) ev_c rv_I0)
    · rw [hlen] at hf
      exact s_retBr (ev_var s1) fun v H5 e5 hv => by rw [hD]; exact hQ v H5 ((E3.trans e4).trans e5) (by rw [u1, hf]; exact hv)
    rw [hlen] at hf
    rw [hf] at u1
    have E4 := E3.trans e4
    have hv1 : ∃ x1 x2, σ'' = [some (.ref a), x1, x2, none] := by
      rcases hσ with rfl | ⟨z, rfl⟩ <;> rcases hσ2 with rfl | ⟨u, v, rfl⟩ <;> exact ⟨_, _, rfl⟩
    obtain ⟨x1, x2, rfl⟩ := hv1
    refine q_asgL (el_shares (ev_var rfl) (sq.ex E4) hl) fun l H5 hlf e5 hsh => ?_
    have E5 := E4.trans e5
    have slen : (shares ns).length = ns.length := shGo_len ns 0
    have shi : ∀ {σ : L2.St} {te ti : TE} {H1 : Hp} {i : Nat}, Ex H5 H1 → i < ns.length → Ev te σ H1 (.ref l) → Ev ti σ H1 (.int (i : Int)) → Ev (tOp (rIxA K) te ti) σ H1 (.int ((shares ns).getD i 0)) := fun {σ te ti H1 i} e hi h h2 => ev_ixA h h2 (SqB.l (sq_of (e l _ hsh))) (atI_int (by omega))
    refine q_firstR (lo := 1) (n := ns.length) (p := fun i => (shares ns).getD i 0 == (shares ns).getD (i - 1) 0) (ea2 ev_c (lenE E5 (ev_var rfl))) (by decide) (by omega) (fun i H6 e6 h1 h2 => ?_) (fun i H6 D' hD e6 h1 h2 hf => ?_) (fun σ3 H6 e6 hσ3 hf => ?_)
    · have hd := dec_int (i := (shares ns).getD i 0) (j := (shares ns).getD (i - 1) 0)
      rw [← hd]
      exact et_test (ev_op (shi e6 h2 (ev_var rfl) (ev_var rfl)) (shi e6 (by omega) (ev_var rfl) (prev h1 (ev_var rfl))) (rv_eq rfl))
    · exact s_retBr (ev_var rfl) fun v H7 e7 hv => by rw [hD]; exact hQ v H7 ((E5.trans e6).trans e7) (by rw [u1, hf]; exact hv)
    rw [hf] at u1
    have hl3 : σ3[3]? = some (some (.ref l)) := hσ3.get (by decide)
    have ha3 : σ3[0]? = some (some (.ref a)) := hσ3.get (by decide)
    have E6 := E5.trans e6
    have last : Ev (tOp (rIxA K) (tVar 3) (tUn (rU fun i => .int (-i)) (tC (.int 1)))) σ3 H6 (.int ((shares ns).getD (ns.length - 1) 0)) := ev_ixA (ev_var hl3) (ev_un ev_c ru_neg) (SqB.l (sq_of (e6 l _ hsh))) (atI_m1 (by
      rw [List.length_map, slen, List.getElem?_map, List.getD_eq_getElem?_getD, List.getElem?_eq_getElem (by omega)]; rfl))
    refine s_retP (P := fun v H' => Dp K H' v (brD (chBreach ns))) (ep_if (et_test (ev_op last ev_c (rv_eq rfl))) (fun hy => ?_) (fun hn => ?_)) fun v H7 e7 hv => hQ v H7 (E6.trans e7) hv
    · have h1 : (shares ns).getD (ns.length - 1) 0 = 1 := by have := of_decide_eq_true hy; injection this
      rw [u1, if_pos h1]
      exact (Ev.p ev_c).imp fun v H' _ e => e ▸ Dp.non
    · have h1 : ¬ (shares ns).getD (ns.length - 1) 0 = 1 := fun z => by have := of_decide_eq_false hn; exact this (by rw [z])
      rw [u1, if_neg h1]
      exact ep_pair (d1 := .str "end") (d2 := .int ((ns.length : Int) - 1)) ev_c (ev_op (lenE E6 (ev_var ha3)) ev_c rv_I0) (.str "end") (.int _)
end
end K41
set_option maxHeartbeats 0
/-! The walks: need, settle. -/
namespace K41
open PySem PySem.Spec PyProof.Rows L2 He TC Evl
section
variable {w : World} {h0 base : Heap} {K : PySem.W.Frag} {mg : Str → Option Value}
/-- the error X(v), its field f -/
def Err (K : PySem.W.Frag) (x f : Str) (E : XK) (H : Hp) (P : V → Hp → Prop) : Prop := ∀ H' dd v, Ex H H' → P v H' → H' dd = some (.xd [(f, v)]) → E (.ref (ga K x)) (some dd) H'
theorem Err.ex {x f : Str} {E : XK} {H H' : Hp} {P : V → Hp → Prop} (e : Ex H H') (h : Err K x f E H P) : Err K x f E H' P := fun H2 dd v e2 p hd => h H2 dd v (e.trans e2) p hd
def sp_need_integers (K : PySem.W.Frag) : Sp := fun vs H Q E => ∃ x d, vs = [x] ∧ Dp K H x d ∧ (itemsD d).length ≤ 40000 ∧ (isInts d = true → ∀ H', Ex H H' → Q .non H') ∧ (isInts d = false → Err K "BadRow" "value" E H (fun v _ => v = x))
theorem ok_need_integers (T : Wk h0 K mg base) : ClC (L2.CX PP w) PP w K mg base 3 "need_integers" ["row"] (sp_need_integers K) := by
  obtain ⟨fd, F⟩ := f_need_integers T
  refine ⟨_, fd, g_need_integers T, F.kp, F.bindsN (fun _ _ _ _ _ _ us hl => match us, hl with | [_], _ => rfl), F.ok sc_need_integers (fun vs H Q E h => ?_) (fun cdv A outer s H vs Q E hr h => ⟨_, (pss_one (ps_if (pt_not (pt_val (pe_cl (ok_is_integers T) hr (by decide) (by rfl) (pa_cons (pv 0) pa_nil)))) (pss_one (ps_raiseEr rfl (er_BadRow T) hr (m_super T) (g_BadRow T) (takes_of rfl rfl rfl rfl) (pa_cons (pv 0) pa_nil))) pss_nil)), ?_⟩)⟩
  · obtain ⟨x, d, rfl, _⟩ := h; rfl
  · obtain ⟨x, d, rfl, hd, hl, hQ, hE⟩ := h
    refine s_when (et_not (et_B (ev_is_integers (ev_var rfl) hd hl))) (fun hb H1 e1 => ?_) (fun hb H1 e1 => ?_)
    · have hn : isInts d = false := by simpa using hb
      exact s_raiseEr (ea1 (ev_var rfl)) fun H2 dd e2 hdd => hE hn H2 dd x (e1.trans e2) rfl hdd
    · have hy : isInts d = true := by simpa using hb
      exact hQ hy H1 e1
/-- a character, or why there is none -/
def ChA (K : PySem.W.Frag) (v : V) (H : Hp) : Option (Str × Int) → Prop
  | none => ∃ x dx fs, v = .ref x ∧ H x = some (.ins (ga K "Characters") dx fs)
  | some (s, i) => ∃ x dx, v = .ref x ∧ H x = some (.ins (ga K "NoCharacters") dx [("why", .str s), ("index", .int i)])
theorem ChA.ex {v : V} {H H' : Hp} (e : Ex H H') : ∀ {o : Option (Str × Int)}, ChA K v H o → ChA K v H' o
  | none, ⟨x, dx, fs, h1, h2⟩ => ⟨x, dx, fs, h1, e _ _ h2⟩
  | some (s, i), ⟨x, dx, h1, h2⟩ => ⟨x, dx, h1, e _ _ h2⟩
def sp_settled_character (K : PySem.W.Frag) : Sp := fun vs H Q _ => ∃ (b : Bool) (a : Addr) (ns : List Int), vs = [.ref a] ∧ SqB K H b a (ns.map V.int) ∧ ns.length ≤ 40000 ∧ ∀ v H', Ex H H' → ChA K v H' (chBreach ns) → Q v H'
theorem ok_settled_character (T : Wk h0 K mg base) : ClC CX0 PP w K mg base 6 "settled_character" ["row"] (sp_settled_character K) := by
  obtain ⟨fd, F⟩ := f_settled_character T
  refine ⟨_, fd, g_settled_character T, F.kp, F.bindsN (fun _ _ _ _ _ _ us hl => match us, hl with | [_], _ => rfl), F.ok sc_settled_character (fun vs H Q E h => ?_) (fun cdv A outer s H vs Q E hr h => ⟨_, PSs.nox (pss_cons (ps_set (i := 1) sc_settled_character.nd rfl (Or.inl rfl) (pe_cl (ok_characters_breach T) hr (by decide) (by rfl) (pa_cons (pv 0) pa_nil))) (pss_one (ps_ret (pe_ifExp (pt_cmpR (op_isN) (pv 1) (pe_non) (nomark _)) (pe_mkc (ok_Characters_init T) hr (by decide) (by rfl) (pa_cons (pe_cl (ok_shares_of T) hr (by decide) (by rfl) (pa_cons (pv 0) pa_nil)) pa_nil)) (pe_mkc (ok_NoCharacters_init T) hr (by decide) (by rfl) (pa_cons (pe_ix ix_seq (pv 1) (pe_int) (fun _ _ => rfl)) (pa_cons (pe_ix ix_seq (pv 1) (pe_int) (fun _ _ => rfl)) pa_nil))))))), ?_⟩)⟩
  · obtain ⟨b, a, ns, rfl, _⟩ := h; rfl
  · obtain ⟨b, a, ns, rfl, sq, hl, hQ⟩ := h
    refine q_asgP (P := fun v H1 => Dp K H1 v (brD (chBreach ns))) (ep_call (ea1 (ev_var rfl)) fun H1 e Q q E => ⟨b, a, ns, rfl, sq.ex e, hl, q⟩) fun bv H1 e1 hb => ?_
    refine s_retP (P := fun v H' => ChA K v H' (chBreach ns)) ?_ fun v H2 e2 hv => hQ v H2 (e1.trans e2) hv
    cases hc : chBreach ns with
    | none =>
      rw [hc] at hb
      cases hb
      refine ep_if (b := true) (et_test (ev_is (ev_isN (x := .non) (ev_var rfl)) (congrArg V.bl (decide_eq_true rfl)))) (fun _ => ?_) (fun h => by cases h)
      refine (ep_makeP (Pa := fun x H' => ∃ dx fs, H' x = some (.ins (ga K "Characters") dx fs)) (eap1 (EvL.p (el_shares (ev_var rfl) (sq.ex e1) hl))) fun vs H2 e2 ⟨v, hv, l, hl1, hl2⟩ => ?_).imp fun v H2 _ ⟨x, ev, dx, fs, h⟩ => ⟨x, dx, fs, ev, h⟩
      subst hv hl1
      exact mk_Characters (b := false) (sq_of hl2) (by rw [show (shares ns).length = ns.length from shGo_len ns 0]; exact hl)
    | some p =>
      obtain ⟨s, i⟩ := p
      rw [hc] at hb
      obtain ⟨q, xs, rfl, sqx, hx⟩ := Dp.seq_inv (b := true) hb
      have hxs : xs = [.str s, .int i] := by
        cases hx with
        | cons h1 h2 =>
          cases h1
          cases h2 with
          | cons h3 h4 => cases h3; cases h4; rfl
      subst hxs
      refine ep_if (b := false) (et_test (ev_is (ev_isN (x := .ref q) (ev_var rfl)) (congrArg V.bl (decide_eq_false (fun z => nomatch z))))) (fun h => by cases h) (fun _ => ?_)
      exact (ep_make (ea2 (ev_ixA (i := 0) (ev_var rfl) ev_c sqx (atI_n (i := 0) rfl)) (ev_ixA (i := 1) (ev_var rfl) ev_c sqx (atI_n (i := 1) rfl))) mk_No).imp fun v H2 _ ⟨x, ev, dx, h⟩ => ⟨x, dx, ev, h⟩
def sp_settle_character (K : PySem.W.Frag) : Sp := fun vs H Q E => ∃ x d, vs = [x] ∧ Dp K H x d ∧ (itemsD d).length ≤ 40000 ∧ (isInts d = false → Err K "BadRow" "value" E H (fun v _ => v = x)) ∧ (∀ (b : Bool) (ns : List Int), d = seqD b (ns.map PyData.int) → ∀ v H', Ex H H' → ChA K v H' (chBreach ns) → Q v H')
theorem items_seq {b : Bool} {ds : List PyData} : itemsD (seqD b ds) = ds := by cases b <;> rfl
theorem isInts_seq {b : Bool} {ns : List Int} : isInts (seqD b (ns.map PyData.int)) = true := by
  unfold isInts
  rw [items_seq, List.all_map]
  have h1 : isRowD (seqD b (ns.map PyData.int)) = true := by cases b <;> rfl
  rw [h1, Bool.true_and]
  exact List.all_eq_true.mpr fun _ _ => rfl
theorem ok_settle_character (T : Wk h0 K mg base) : ClC (L2.CX PP w) PP w K mg base 7 "settle_character" ["row"] (sp_settle_character K) := by
  obtain ⟨fd, F⟩ := f_settle_character T
  refine ⟨_, fd, g_settle_character T, F.kp, F.bindsN (fun _ _ _ _ _ _ us hl => match us, hl with | [_], _ => rfl), F.ok sc_settle_character (fun vs H Q E h => ?_) (fun cdv A outer s H vs Q E hr h => ⟨_, (pss_cons (ps_expr (pe_clX (ok_need_integers T) hr (by decide) (passes_call (takes_of rfl rfl rfl rfl) (fun _ _ _ _ h => h)) (by rfl) (pa_cons (pv 0) pa_nil))) (pss_one (ps_ret (pe_cl (ok_settled_character T) hr (by decide) (by rfl) (pa_cons (pv 0) pa_nil))))), ?_⟩)⟩
  · obtain ⟨x, d, rfl, _⟩ := h; rfl
  · obtain ⟨x, d, rfl, hd, hl, hE, hQ⟩ := h
    refine q_dropCall (ea1 (ev_var rfl)) fun H1 e1 => ⟨x, d, rfl, Dp.ex e1 hd, hl, fun hy H2 e2 => ?_, fun hn => (hE hn).ex e1⟩
    obtain ⟨b, ns, rfl⟩ := isInts_inv hy
    obtain ⟨a, xs, rfl, sq, da⟩ := Dp.seq_inv hd
    have hxs := DpAll.ints_inv da
    subst hxs
    rw [items_seq, List.length_map] at hl
    exact s_retCall (ea1 (ev_var rfl)) fun H3 e3 => ⟨b, a, ns, rfl, sq.ex ((e1.trans e2).trans e3), hl, fun v H4 e4 hv => hQ b ns rfl v H4 (((e1.trans e2).trans e3).trans e4) hv⟩
def sp_need_character (K : PySem.W.Frag) : Sp := fun vs H Q E => ∃ x d, vs = [x] ∧ Dp K H x d ∧ (itemsD d).length ≤ 40000 ∧ (isInts d = false → Err K "BadRow" "value" E H (fun v _ => v = x)) ∧
  (∀ (b : Bool) (ns : List Int), d = seqD b (ns.map PyData.int) → (chBreach ns = none → ∀ v H', Ex H H' → Dp K H' v (.tuple (ns.map PyData.int)) → Q v H') ∧ ∀ p, chBreach ns = some p → Err K "BadCharacters" "answer" E H (fun v H' => ChA K v H' (some p)))
theorem ok_need_character (T : Wk h0 K mg base) : ClC (L2.CX PP w) PP w K mg base 7 "need_character" ["row"] (sp_need_character K) := by
  obtain ⟨fd, F⟩ := f_need_character T
  refine ⟨_, fd, g_need_character T, F.kp, F.bindsN (fun _ _ _ _ _ _ us hl => match us, hl with | [_], _ => rfl), F.ok sc_need_character (fun vs H Q E h => ?_) (fun cdv A outer s H vs Q E hr h => ⟨_, (pss_cons (ps_expr (pe_clX (ok_need_integers T) hr (by decide) (passes_call (takes_of rfl rfl rfl rfl) (fun _ _ _ _ h => h)) (by rfl) (pa_cons (pv 0) pa_nil))) (pss_cons (ps_set (i := 1) sc_need_character.nd rfl (Or.inl rfl) (pe_cl (ok_settled_character T) hr (by decide) (by rfl) (pa_cons (pv 0) pa_nil))) (pss_cons (ps_if (pt_val (pe_callB call_isi (by rfl) (m_isinstance T) boot_isinstance (pa_cons (pv 1) (pa_cons (pe_glob (v := .ref (ga K "NoCharacters")) (by rfl) (g_NoCharacters T) rfl) pa_nil)))) (pss_one (ps_raiseEr rfl (er_BadCharacters T) hr (m_super T) (g_BadCharacters T) (takes_of rfl rfl rfl rfl) (pa_cons (pv 1) pa_nil))) pss_nil) (pss_one (ps_ret (pe_callTy call_tuple_of (by rfl) (m_tuple T) (by decide +kernel) (pa_cons (pv 0) pa_nil))))))), ?_⟩)⟩
  · obtain ⟨x, d, rfl, _⟩ := h; rfl
  · obtain ⟨x, d, rfl, hd, hl, hE, hQ⟩ := h
    refine q_dropCall (ea1 (ev_var rfl)) fun H1 e1 => ⟨x, d, rfl, Dp.ex e1 hd, hl, fun hy H2 e2 => ?_, fun hn => (hE hn).ex e1⟩
    obtain ⟨b, ns, rfl⟩ := isInts_inv hy
    obtain ⟨a, xs, rfl, sq, da⟩ := Dp.seq_inv hd
    have hxs := DpAll.ints_inv da
    subst hxs
    rw [items_seq, List.length_map] at hl
    obtain ⟨q1, q2⟩ := hQ b ns rfl
    refine q_asgP (P := fun v H' => ChA K v H' (chBreach ns)) (ep_call (ea1 (ev_var rfl)) fun H3 e3 Q q E => ⟨b, a, ns, rfl, sq.ex ((e1.trans e2).trans e3), hl, q⟩) fun v H3 e3 hv => ?_
    have E3 := (e1.trans e2).trans e3
    cases hc : chBreach ns with
    | none =>
      rw [hc] at hv
      obtain ⟨y, dx, fs, rfl, hy⟩ := hv
      refine q_when (b := false) (et_B (ev_isi (ev_var rfl) (.own _) (InsC.ty (insC T (x := "Characters") (by decide)) hy) (kit T (q := (.inr "Characters", .inr "NoCharacters", false)) (by decide)))) (fun h => by cases h) (fun _ H4 e4 => ?_)
      refine s_retP (P := fun v H' => Dp K H' v (.tuple (ns.map PyData.int))) ((ep_tupleOf (b := b) (R := fun xs _ => xs = ns.map V.int) ((Ev.p (ev_var rfl)).imp fun v H1 e ev => ⟨a, _, ev, sq.ex ((E3.trans e4).trans e), rfl⟩) (fun _ _ _ _ z => z)).imp fun v H1 _ ⟨p, xs, e, hs, hx⟩ => ?_) fun v H5 e5 hv => q1 hc v H5 ((E3.trans e4).trans e5) hv
      subst e hx
      exact Dp.tup hs DpAll.ints
    | some p =>
      rw [hc] at hv
      have hv' := hv
      obtain ⟨y, dx, rfl, hy⟩ := hv
      refine q_when (b := true) (et_B (ev_isi (ev_var rfl) (.own _) (InsC.ty (insC T (x := "NoCharacters") (by decide)) hy) (kit T (q := (.inr "NoCharacters", .inr "NoCharacters", true)) (by decide)))) (fun _ H4 e4 => ?_) (fun h => by cases h)
      exact s_raiseEr (ea1 (ev_var rfl)) fun H5 dd e5 hdd => q2 p hc H5 dd _ ((E3.trans e4).trans e5) (ChA.ex (e4.trans e5) hv') hdd
end
end K41
set_option maxHeartbeats 0
/-! The plain functions of cables. -/
namespace K41
open PySem PySem.Spec PyProof.Rows L2 He TC Evl
abbrev PL : Type := List (Int × Int)
def sm (i : Int) : Bool := decide (-(2 ^ 20) < i) && decide (i < 2 ^ 20)
def Small (ps : PL) : Bool := ps.all fun p => sm p.1 && sm p.2
theorem sm_iff {i : Int} (h : sm i = true) : -(2 ^ 20) < i ∧ i < 2 ^ 20 := by
  obtain ⟨h1, h2⟩ := ba h
  exact ⟨of_decide_eq_true h1, of_decide_eq_true h2⟩
theorem small_at {ps : PL} (h : Small ps = true) (k : Nat) : (-(2 ^ 20) < (ps.getD k (0, 0)).1 ∧ (ps.getD k (0, 0)).1 < 2 ^ 20) ∧ (-(2 ^ 20) < (ps.getD k (0, 0)).2 ∧ (ps.getD k (0, 0)).2 < 2 ^ 20) := by
  rw [List.getD_eq_getElem?_getD]
  cases e : ps[k]? with
  | none => exact ⟨by decide, by decide⟩
  | some p =>
    obtain ⟨h1, h2⟩ := ba (List.all_eq_true.mp h p (List.mem_of_getElem? e))
    exact ⟨sm_iff h1, sm_iff h2⟩
/-- the breach -/
def thr : Option Int → Int → Int
  | none, p => p
  | some l, p => l * p
def brGo (least : Option Int) (i : Nat) : PL → Option (Str × Int)
  | [] => none
  | (p, a) :: r => if p < 2 then some ("p", (i : Nat)) else if ((Nat.gcd p.natAbs a.natAbs : Nat) : Int) ≠ 1 then some ("share", (i : Nat)) else if a ≤ thr least p then some ("less", (i : Nat)) else brGo (some (a * p)) (i + 1) r
def brOf (ps : PL) : Option (Str × Int) := brGo none 0 ps
/-- the row -/
def shF : PL → List Int
  | [] => [1]
  | (p, _) :: r => ((shF r).headD 0 * p) :: shF r
def stepF (ps : PL) : Nat → Int
  | 0 => (ps.getD 0 (0, 0)).2
  | k + 1 => (ps.getD (k + 1) (0, 0)).2 - (ps.getD k (0, 0)).2 * (ps.getD k (0, 0)).1 * (ps.getD (k + 1) (0, 0)).1
def accF (ps : PL) : Nat → Int
  | 0 => 0
  | k + 1 => accF ps k + stepF ps k * (shF ps).getD (k + 1) 0
def foundL (ps : PL) (k : Nat) : List Int := (shF ps).headD 0 :: (List.range k).map fun j => accF ps (j + 1)
def rowOf (ps : PL) : List Int := foundL ps ps.length
theorem shF_len : ∀ ps : PL, (shF ps).length = ps.length + 1
  | [] => rfl
  | (p, a) :: r => by show (shF r).length + 1 = r.length + 1 + 1; rw [shF_len r]
theorem foundL_len (ps : PL) (k : Nat) : (foundL ps k).length = k + 1 := by unfold foundL; simp
theorem foundL_succ (ps : PL) (k : Nat) : foundL ps (k + 1) = foundL ps k ++ [accF ps (k + 1)] := by
  unfold foundL
  rw [List.range_succ, List.map_append]
  rfl
theorem foundL_last (ps : PL) (k : Nat) : (foundL ps (k + 1)).getD (k + 1) 0 = accF ps (k + 1) := by
  rw [foundL_succ, List.getD_eq_getElem?_getD, List.getElem?_append_right (by rw [foundL_len]; exact Nat.le_refl _), foundL_len]
  simp
theorem headD_getD {α : Type} (l : List α) (z : α) : l.headD z = l.getD 0 z := by cases l <;> rfl
/-- answers -/
inductive An where
  | cab (r : Option (List Int))
  | no (w : Option Str) (i : Sum Int Bool)
  | flat (b : Bool)
def ansOf (ps : PL) : An := match brOf ps with
  | none => .cab (some (rowOf ps))
  | some (s, i) => .no (some s) (.inl i)
def rD : Option (List Int) → PyData
  | none => .none
  | some ns => .tuple (ns.map PyData.int)
def wD : Option Str → PyData
  | none => .none
  | some s => .str s
def iD : Sum Int Bool → PyData
  | .inl i => .int i
  | .inr b => .bool b
def flD : Bool → PyData
  | true => .none
  | false => .int 5
def AnA (K : PySem.W.Frag) (v : V) (H : Hp) : An → Prop
  | .cab r => ∃ x dx u, v = .ref x ∧ H x = some (.ins (ga K "CableOf") dx [("row", u)]) ∧ Dp K H u (rD r)
  | .no w i => ∃ x dx v1 v2, v = .ref x ∧ H x = some (.ins (ga K "NoCable") dx [("why", v1), ("index", v2)]) ∧ Dp K H v1 (wD w) ∧ Dp K H v2 (iD i)
  | .flat b => Dp K H v (flD b)
theorem AnA.ex {K : PySem.W.Frag} {v : V} {H H' : Hp} (e : Ex H H') : ∀ {a : An}, AnA K v H a → AnA K v H' a
  | .cab r, ⟨x, dx, u, h1, h2, h3⟩ => ⟨x, dx, u, h1, e _ _ h2, Dp.ex e h3⟩
  | .no w i, ⟨x, dx, v1, v2, h1, h2, h3, h4⟩ => ⟨x, dx, v1, v2, h1, e _ _ h2, Dp.ex e h3, Dp.ex e h4⟩
  | .flat b, h => Dp.ex e h
def one (s : Str) : PyData := .tuple [.str s]
/-- the fault of an answer, the law's due -/
def faultOf (ps : PL) : An → PyData
  | .cab r => if (brOf ps).isSome = true then one "none" else if r = some (rowOf ps) then .none else one "row"
  | .no w i => match brOf ps with
    | none => one "cable"
    | some (s, j) => if w ≠ some s then one "why" else if i = .inl j then .none else one "index"
  | .flat _ => one "answer"
end K41
set_option maxHeartbeats 0
/-! The walks: pairs, breach, row of a cable. -/
namespace K41
open PySem PySem.Spec PyProof.Rows L2 He TC Evl
section
variable {w : World} {h0 base : Heap} {K : PySem.W.Frag} {mg : Str → Option Value}
/-! need_pairs -/
def isTupD : PyData → Bool
  | .tuple _ => true
  | _ => false
def goodPair (d : PyData) : Bool := isTupD d && ((itemsD d).length == 2 && isInts d)
def goodCab (d : PyData) : Bool := isRowD d && !decide (4 < (itemsD d).length) && (itemsD d).all goodPair
theorem kit_tup {v : V} {d : PyData} {H : Hp} (h : Dp K H v d) : PySem.W.kitOne K (.type (tyOf d)) (.type "tuple") = some (isTupD d) := by
  cases h with
  | non => exact kit_ty (a := "NoneType") (r := false) (by decide +kernel)
  | bl b => exact kit_ty (a := "bool") (r := false) (by decide +kernel)
  | int i => exact kit_ty (a := "int") (r := false) (by decide +kernel)
  | str x => exact kit_ty (a := "str") (r := false) (by decide +kernel)
  | lst _ _ => exact kit_ty (a := "list") (r := false) (by decide +kernel)
  | tup _ _ => exact kit_ty (a := "tuple") (r := true) (by decide +kernel)
theorem nat_beq_v {n m : Nat} : decide (V.int (n : Int) = V.int (m : Int)) = (n == m) := by
  rw [dec_int]
  by_cases h : n = m
  · subst h; simp
  · have h1 : (n == m) = false := beq_eq_false_iff_ne.mpr h
    rw [h1]
    exact beq_eq_false_iff_ne.mpr (by omega)
def sp_need_pairs (K : PySem.W.Frag) : Sp := fun vs H Q E => ∃ x d, vs = [x] ∧ Dp K H x d ∧ (itemsD d).length ≤ 40000 ∧ (∀ e ∈ itemsD d, (itemsD e).length ≤ 40000) ∧ (goodCab d = true → ∀ H', Ex H H' → Q .non H') ∧ (goodCab d = false → Err K "BadRow" "value" E H (fun v _ => v = x))
theorem ok_need_pairs (T : Wk h0 K mg base) : ClC (L2.CX PP w) PP w K mg base 3 "need_pairs" ["cable"] (sp_need_pairs K) := by
  obtain ⟨fd, F⟩ := f_need_pairs T
  refine ⟨_, fd, g_need_pairs T, F.kp, F.bindsN (fun _ _ _ _ _ _ us hl => match us, hl with | [_], _ => rfl), F.ok sc_need_pairs (fun vs H Q E h => ?_) (fun cdv A outer s H vs Q E hr h => ⟨_, (pss_cons (ps_if (PW.pt (pw_or (pt_not (pt_val (pe_cl (ok_is_row T) hr (by decide) (by rfl) (pa_cons (pv 0) pa_nil)))) (pw_or1 (pt_cmpR (op_gt) (pe_callB (call_lenK (K := K) rfl) (by rfl) (m_len T) boot_len (pa_cons (pv 0) pa_nil)) (pe_gcI (by rfl) (i_MOST_PAIRS T)) (nomark _))))) (pss_one (ps_raiseEr rfl (er_BadRow T) hr (m_super T) (g_BadRow T) (takes_of rfl rfl rfl rfl) (pa_cons (pv 0) pa_nil))) pss_nil) (pss_one (ps_if (pt_not (pt_val (pe_callB (cr_all rfl) (by rfl) (m_all T) boot_all (pa_cons (pe_lc (own := [("pair", 1)]) (g := gName 1) rfl sc_need_pairs.nd (pi_any (pv 0)) (blkOk_by (N := N_need_pairs) (sc := defScope s_need_pairs) (by decide +kernel)) (fun _ _ _ _ _ => (pg_name (i := 1) sc_need_pairs.nd rfl (Or.inl rfl))) (fun _ _ _ _ _ => pts_nil) (fun _ _ _ _ _ => ((pe_and (pe_callB (call_isi1 (K := K) rfl) (by rfl) (m_isinstance T) boot_isinstance (pa_cons (pv 1) (pa_cons (pe_bltn (v := .ty "tuple") (by rfl) (m_tuple T) (by decide +kernel) rfl) pa_nil))) (pe_and (pe_cmpR (op_eq) (pe_callB (call_lenK (K := K) rfl) (by rfl) (m_len T) boot_len (pa_cons (pv 1) pa_nil)) (pe_int) (nomark _)) (pe_one (pe_cl (ok_is_integers T) hr (by decide) (by rfl) (pa_cons (pv 1) pa_nil)))))))) pa_nil)))) (pss_one (ps_raiseEr rfl (er_BadRow T) hr (m_super T) (g_BadRow T) (takes_of rfl rfl rfl rfl) (pa_cons (pv 0) pa_nil))) pss_nil))), ?_⟩)⟩
  · obtain ⟨x, d, rfl, _⟩ := h; rfl
  · obtain ⟨x, d, rfl, hd, hl, hl2, hQ, hE⟩ := h
    have len : ∀ {σ : L2.St} {te : TE} {H1 : Hp}, Ex H H1 → isRowD d = true → Ev te σ H1 x → Ev (tCB (rLenA K) (tCons te tNil)) σ H1 (.int ((itemsD d).length : Int)) := fun {σ te H1} e hr h => by
      obtain ⟨b, ds, rfl, e2⟩ := rowD_seq hr
      obtain ⟨a, xs, rfl, sq, da⟩ := Dp.seq_inv hd
      rw [e2, ← DpAll.length da]
      exact ev_lenA h (sq.ex e)
    refine q_when (b := !isRowD d || decide (4 < (itemsD d).length)) (et_or (et_not (et_B (ev_is_row (ev_var rfl) hd))) fun hr => ?_) (fun hb H1 e1 => ?_) (fun hb H1 e1 => ?_)
    · have hr' : isRowD d = true := by simpa using hr
      refine et_is (et_test (ev_op (len (Ex.refl H) hr' (ev_var rfl)) ev_c rv_I0)) ?_
      exact decide_eq_decide.mpr ⟨fun h => by omega, fun h => by omega⟩
    · have hg : goodCab d = false := by
        unfold goodCab
        cases h1 : isRowD d <;> cases h2 : decide (4 < (itemsD d).length) <;> rw [h1, h2] at hb <;> first | rfl | cases hb
      exact s_raiseEr (ea1 (ev_var rfl)) fun H2 dd e2 hdd => hE hg H2 dd x (e1.trans e2) rfl hdd
    have hr : isRowD d = true := by
      cases h1 : isRowD d
      · rw [h1] at hb; cases hb
      · rfl
    have h4 : decide (4 < (itemsD d).length) = false := by
      cases h1 : decide (4 < (itemsD d).length)
      · rfl
      · rw [h1, Bool.or_true] at hb; cases hb
    have hg : goodCab d = (itemsD d).all goodPair := by unfold goodCab; rw [hr, h4]; rfl
    obtain ⟨b, ds, rfl, ei⟩ := rowD_seq hr
    rw [ei] at hl hl2 hg
    obtain ⟨a, xs, rfl, sq, da⟩ := Dp.seq_inv hd
    have hlen := DpAll.length da
    refine s_when (b := !ds.all goodPair) (et_not (et_B (ev_is (ev_all (bs := ds.map goodPair) (el_lcA (fun _ => true) (fun i => .bl (goodPair (ds.getD i .none))) (ev_var rfl) (sq.ex e1) (by omega) (fun _ => rfl) (fun i x H1 _ _ => fun H2 _ Q q => q H2 (Ex.refl H2)) (fun i x H2 e2 hx _ => ?_)) ?_) ?_))) (fun hb H2 e2 => ?_) (fun hb H2 e2 => ?_)
    · obtain ⟨d', hd1, hd2⟩ := DpAll.get da hx
      have e3 : ds.getD i .none = d' := by rw [List.getD_eq_getElem?_getD, hd1]; rfl
      rw [e3]
      have hd3 := Dp.ex (e1.trans e2) hd2
      have hm : d' ∈ ds := List.mem_of_getElem? hd1
      refine ev_andV (ev_isi (ev_var rfl) (.ty _) (Dp.tyX hd3) (kit_tup hd3)) fun ht => ev_andV ?_ fun _ => ev_is_integers (ev_var rfl) hd3 (hl2 d' hm)
      have hrow : isRowD d' = true := by cases d' <;> first | rfl | cases ht
      obtain ⟨b', ds', rfl, ei'⟩ := rowD_seq hrow
      obtain ⟨a', xs', rfl, sq', da'⟩ := Dp.seq_inv hd3
      rw [ei', ← DpAll.length da']
      refine ev_is (ev_op (ev_lenA (ev_var rfl) sq') ev_c (rv_eq rfl)) ?_
      exact congrArg V.bl (nat_beq_v (m := 2))
    · rw [given_all, hlen, List.map_map]; exact range_getD (V.bl ∘ goodPair) .none ds
    · rw [List.all_map]; rfl
    · have hg' : goodCab (seqD b ds) = false := by rw [hg]; simpa using hb
      exact s_raiseEr (ea1 (ev_var rfl)) fun H3 dd e3 hdd => hE hg' H3 dd _ ((e1.trans e2).trans e3) rfl hdd
    · have hg' : goodCab (seqD b ds) = true := by rw [hg]; simpa using hb
      exact hQ hg' H2 (e1.trans e2)
theorem goodCab_cab {b : Bool} {ps : PL} (h : ps.length ≤ 4) : goodCab (cabD b ps) = true := by
  unfold goodCab cabD
  rw [items_seq, List.length_map, List.all_map]
  have h1 : isRowD (seqD b (ps.map prD)) = true := by cases b <;> rfl
  have h2 : decide (4 < ps.length) = false := decide_eq_false (by omega)
  rw [h1, h2]
  exact List.all_eq_true.mpr fun p _ => rfl
theorem items_cab {b : Bool} {ps : PL} (h : ps.length ≤ 4) : (itemsD (cabD b ps)).length ≤ 40000 ∧ ∀ e ∈ itemsD (cabD b ps), (itemsD e).length ≤ 40000 := by
  unfold cabD
  rw [items_seq, List.length_map]
  refine ⟨by omega, fun e he => ?_⟩
  obtain ⟨p, _, rfl⟩ := List.mem_map.mp he
  show 2 ≤ 40000
  decide
/-! cable_breach -/
def optI : Option Int → V
  | none => .non
  | some i => .int i
def sp_cable_breach (K : PySem.W.Frag) : Sp := fun vs H Q _ => ∃ (x : V) (b : Bool) (ps : PL), vs = [x] ∧ Dp K H x (cabD b ps) ∧ Small ps = true ∧ ∀ v H', Ex H H' → Dp K H' v (brD (brOf ps)) → Q v H'
theorem ok_cable_breach (T : Wk h0 K mg base) : ClC CX0 PP w K mg base 1 "cable_breach" ["cable"] (sp_cable_breach K) := by
  obtain ⟨fd, F⟩ := f_cable_breach T
  refine ⟨_, fd, g_cable_breach T, F.kp, F.bindsN (fun _ _ _ _ _ _ us hl => match us, hl with | [_], _ => rfl), F.ok sc_cable_breach (fun vs H Q E h => ?_) (fun cdv A outer s H vs Q E hr h => ⟨_, PSs.nox (pss_cons (ps_set (i := 1) sc_cable_breach.nd rfl (Or.inl rfl) (pe_non)) (pss_cons (ps_for PassesOwn.never rfl (pi_enumA (by rfl) (m_enumerate T) (pa_cons (pv 0) pa_nil)) (pg_tup rfl (pgs_cons (pg_name (i := 2) sc_cable_breach.nd rfl (Or.inl rfl)) (pgs_cons (pg_name (i := 3) sc_cable_breach.nd rfl (Or.inl rfl)) pgs_nil))) (pss_cons (ps_asg (pv 3) (pg_tup rfl (pgs_cons (pg_name (i := 4) sc_cable_breach.nd rfl (Or.inl rfl)) (pgs_cons (pg_name (i := 5) sc_cable_breach.nd rfl (Or.inl rfl)) pgs_nil)))) (pss_cons (ps_if (pt_cmpR (op_lt) (pv 4) (pe_int) (nomark _)) (pss_one (ps_ret (pe_tup (pa_cons (pe_str) (pa_cons (pv 2) pa_nil))))) pss_nil) (pss_cons (ps_if (pt_cmpR (op_ne) (pe_callBfun cr_gcd (by rfl) (m_gcd T) (pa_cons (pv 4) (pa_cons (pv 5) pa_nil))) (pe_int) (nomark _)) (pss_one (ps_ret (pe_tup (pa_cons (pe_str) (pa_cons (pv 2) pa_nil))))) pss_nil) (pss_cons (ps_if (pt_cmpR (op_le) (pv 5) (pe_ifExp (pt_cmpR (op_isN) (pv 1) (pe_non) (nomark _)) (pv 4) (pe_op op_mul (pv 1) (pv 4))) (nomark _)) (pss_one (ps_ret (pe_tup (pa_cons (pe_str) (pa_cons (pv 2) pa_nil))))) pss_nil) (pss_one (ps_set (i := 1) sc_cable_breach.nd rfl (Or.inl rfl) (pe_op op_mul (pv 5) (pv 4))))))))) (pss_one (ps_ret (pe_non))))), ?_⟩)⟩
  · obtain ⟨x, b, ps, rfl, _⟩ := h; rfl
  · obtain ⟨x, b, ps, rfl, hd, hs, hQ⟩ := h
    obtain ⟨a, xs, rfl, sq, da, hlen⟩ := cab_inv hd
    refine q_asg (v := .non) ev_c fun H1 e1 => ?_
    refine q_forEn (b := b) (a := a) (xs := xs) (ea1 (ev_var rfl)) (sq.ex e1) (fun k σ' H' => ∃ (l : Option Int) (x2 x3 x4 x5 : Option V), σ' = [some (.ref a), some (optI l), x2, x3, x4, x5] ∧ Ex H H' ∧ brOf ps = brGo l k (ps.drop k))
      (fun H2 e2 => ⟨none, none, none, none, none, rfl, e1.trans e2, rfl⟩) (fun k σ' H' _ ⟨_, _, _, _, _, _, e, _⟩ => sq.ex e) (fun k x σ' H' H'' hx ⟨l, x2, x3, x4, x5, es, e, hbr⟩ e2 => ?_) (fun σ' H' ⟨l, x2, x3, x4, x5, es, e, hbr⟩ => ?_)
    · subst es
      obtain ⟨p, c, hp, rfl, hc⟩ := cab_at da hx
      have hsp := small_at hs k
      have eg : ps.getD k (0, 0) = p := by rw [List.getD_eq_getElem?_getD, hp]; rfl
      rw [eg] at hsp
      have hdr : ps.drop k = p :: ps.drop (k + 1) := by
        obtain ⟨hlt, e3⟩ := List.getElem?_eq_some_iff.mp hp
        rw [← e3]; exact List.drop_eq_getElem_cons hlt
      obtain ⟨p1, p2⟩ := p
      rw [hdr] at hbr
      have E2 := e.trans e2
      refine q_unp (ev_var rfl) (ex_t E2 hc) fun H2 e3 => ?_
      have E3 := E2.trans e3
      refine q_when (b := decide (p1 < 2)) (et_test (ev_op (ev_var rfl) ev_c rv_I0)) (fun hb H3 e4 => ?_) (fun hb H3 e4 => ?_)
      · exact s_retBr (ev_var rfl) fun v H4 e5 hv => hQ v H4 ((E3.trans e4).trans e5) (by
          rw [hbr]; unfold brGo; rw [if_pos (of_decide_eq_true hb)]; exact hv)
      have n1 := of_decide_eq_false hb
      refine q_when (b := !decide (V.int ((Nat.gcd p1.natAbs p2.natAbs : Nat) : Int) = V.int 1)) (et_test (ev_op (ev_gcd (ea2 (ev_var rfl) (ev_var rfl))) ev_c (rv_ne rfl))) (fun hb2 H4 e5 => ?_) (fun hb2 H4 e5 => ?_)
      · have ng : ((Nat.gcd p1.natAbs p2.natAbs : Nat) : Int) ≠ 1 := fun z => by rw [z] at hb2; simp at hb2
        exact s_retBr (ev_var rfl) fun v H5 e6 hv => hQ v H5 (((E3.trans e4).trans e5).trans e6) (by
          rw [hbr]; unfold brGo; rw [if_neg n1, if_pos ng]; exact hv)
      have yg : ¬ ((Nat.gcd p1.natAbs p2.natAbs : Nat) : Int) ≠ 1 := fun z => by
        have : decide (V.int ((Nat.gcd p1.natAbs p2.natAbs : Nat) : Int) = V.int 1) = false := decide_eq_false (fun y => z (by injection y))
        rw [this] at hb2; cases hb2
      refine q_when (b := decide (p2 ≤ thr l p1)) (et_test (ev_op (ev_var rfl) (y := .int (thr l p1)) ?_ rv_I0)) (fun hb3 H5 e6 => ?_) (fun hb3 H5 e6 => ?_)
      · cases l with
        | none => exact ev_if (b := true) (et_test (ev_is (ev_isN (x := .non) (ev_var rfl)) (congrArg V.bl (decide_eq_true rfl)))) (fun _ => ev_var rfl) (fun h => by cases h)
        | some i => exact ev_if (b := false) (et_test (ev_is (ev_isN (x := .int i) (ev_var rfl)) (congrArg V.bl (decide_eq_false (fun z => nomatch z))))) (fun h => by cases h) (fun _ => ev_op (ev_var rfl) (ev_var rfl) (rv_I (cmul (.inr ⟨by omega, by omega⟩))))
      · exact s_retBr (ev_var rfl) fun v H6 e7 hv => hQ v H6 ((((E3.trans e4).trans e5).trans e6).trans e7) (by
          rw [hbr]; unfold brGo; rw [if_neg n1, if_neg yg, if_pos (of_decide_eq_true hb3)]; exact hv)
      · refine s_asg (v := .int (p2 * p1)) (ev_op (ev_var rfl) (ev_var rfl) (rv_I (cmul (.inr ⟨by omega, by omega⟩)))) fun H6 e7 => ?_
        refine ⟨some (p2 * p1), _, _, _, _, rfl, (((E3.trans e4).trans e5).trans e6).trans e7, ?_⟩
        rw [hbr]
        conv => lhs; unfold brGo
        rw [if_neg n1, if_neg yg, if_neg (of_decide_eq_false hb3)]
    · subst es
      rw [hlen, List.drop_length] at hbr
      exact s_ret ev_c fun H2 e2 => hQ .non H2 (e.trans e2) (by rw [hbr]; exact .non)
end
end K41
set_option maxHeartbeats 0
/-! The walks: the row of a cable, settling, faults. -/
namespace K41
open PySem PySem.Spec PyProof.Rows L2 He TC Evl
section
variable {w : World} {h0 base : Heap} {K : PySem.W.Frag} {mg : Str → Option Value}
def sp_row_by_cable (K : PySem.W.Frag) : Sp := fun vs H Q _ => ∃ (x : V) (b : Bool) (ps : PL), vs = [x] ∧ Dp K H x (cabD b ps) ∧ Small ps = true ∧ ps.length ≤ 4 ∧ ∀ v H', Ex H H' → Dp K H' v (.tuple ((rowOf ps).map PyData.int)) → Q v H'
theorem shF_drop {ps : PL} {j : Nat} (h : j < ps.length) : shF (ps.drop j) = ((shF (ps.drop (j + 1))).headD 0 * (ps.getD j (0, 0)).1) :: shF (ps.drop (j + 1)) := by
  have e : ps.drop j = ps.getD j (0, 0) :: ps.drop (j + 1) := by
    rw [List.drop_eq_getElem_cons h, List.getD_eq_getElem?_getD, List.getElem?_eq_getElem h]; rfl
  rw [e]
  generalize ps.getD j (0, 0) = p
  obtain ⟨p1, p2⟩ := p
  rfl
theorem mulb {x y : Int} {A B : Nat} (hx : x.natAbs < A) (hy : y.natAbs < B) : (x * y).natAbs < A * B := by
  rw [Int.natAbs_mul]
  exact Nat.mul_lt_mul'' hx hy
theorem nab {x : Int} (h : -(2 ^ 20) < x ∧ x < 2 ^ 20) : x.natAbs < 2 ^ 20 := by omega
theorem ok_row_by_cable (T : Wk h0 K mg base) : ClC CX0 PP w K mg base 1 "row_by_cable" ["cable"] (sp_row_by_cable K) := by
  obtain ⟨fd, F⟩ := f_row_by_cable T
  refine ⟨_, fd, g_row_by_cable T, F.kp, F.bindsN (fun _ _ _ _ _ _ us hl => match us, hl with | [_], _ => rfl), F.ok sc_row_by_cable (fun vs H Q E h => ?_) (fun cdv A outer s H vs Q E hr h => ⟨_, PSs.nox (pss_cons (ps_set (i := 1) sc_row_by_cable.nd rfl (Or.inl rfl) (pe_lst (pa_cons (pe_int) pa_nil))) (pss_cons (ps_for PassesOwn.never rfl (pi_any (pe_revA (pv 0))) (pg_tup rfl (pgs_cons (pg_name (i := 2) sc_row_by_cable.nd rfl (Or.inl rfl)) (pgs_cons (pg_name (i := 3) sc_row_by_cable.nd rfl (Or.inl rfl)) pgs_nil))) (pss_one (ps_set (i := 1) sc_row_by_cable.nd rfl (Or.inl rfl) (pe_op op_cat (pe_lst (pa_cons (pe_op op_mul (pe_ix (ix_seqK (K := K) rfl) (pv 1) (pe_int) (fun _ _ => rfl)) (pv 2)) pa_nil)) (pv 1))))) (pss_cons (ps_par (i := 4) (j := 5) (by rfl) sc_row_by_cable.nd rfl rfl (by decide) rfl rfl (pa_cons (pe_lst (pa_cons (pe_ix (ix_seqK (K := K) rfl) (pv 1) (pe_int) (fun _ _ => rfl)) pa_nil)) (pa_cons (pe_int) pa_nil)) (by rfl)) (pss_cons (ps_for PassesOwn.never rfl (pi_enumA (by rfl) (m_enumerate T) (pa_cons (pv 0) pa_nil)) (pg_tup rfl (pgs_cons (pg_name (i := 6) sc_row_by_cable.nd rfl (Or.inl rfl)) (pgs_cons (pg_name (i := 7) sc_row_by_cable.nd rfl (Or.inl rfl)) pgs_nil))) (pss_cons (ps_set (i := 8) sc_row_by_cable.nd rfl (Or.inl rfl) (pe_ifExp (pt_cmpR (op_eq) (pv 6) (pe_int) (nomark _)) (pe_ix (ix_seqK (K := K) rfl) (pv 7) (pe_int) (fun _ _ => rfl)) (pe_op op_sub (pe_ix (ix_seqK (K := K) rfl) (pv 7) (pe_int) (fun _ _ => rfl)) (pe_op op_mul (pe_op op_mul (pv 5) (pe_ix (ix_seqK (K := K) rfl) (pe_ix (ix_seqK (K := K) rfl) (pv 0) (pe_op op_sub (pv 6) (pe_int)) (fun _ _ => rfl)) (pe_int) (fun _ _ => rfl))) (pe_ix (ix_seqK (K := K) rfl) (pv 7) (pe_int) (fun _ _ => rfl)))))) (pss_cons (ps_expr (pe_bm PySem.F.plainAttrs_list PySem.F.slot_list_append PySem.F.type_list_append mt_append (pv 4) (pa_cons (pe_op op_add (pe_ifExp (pt_cmpR (op_gt) (pv 6) (pe_int) (nomark _)) (pe_ix (ix_seqK (K := K) rfl) (pv 4) (pe_un un_neg (pe_int)) (fun _ _ => rfl)) (pe_int)) (pe_op op_mul (pv 8) (pe_ix (ix_seqK (K := K) rfl) (pv 1) (pe_op op_add (pv 6) (pe_int)) (fun _ _ => rfl)))) pa_nil))) (pss_one (ps_set (i := 5) sc_row_by_cable.nd rfl (Or.inl rfl) (pe_ix (ix_seqK (K := K) rfl) (pv 7) (pe_int) (fun _ _ => rfl))))))) (pss_one (ps_ret (pe_callTy call_tuple_of (by rfl) (m_tuple T) (by decide +kernel) (pa_cons (pv 4) pa_nil)))))))), ?_⟩)⟩
  · obtain ⟨x, b, ps, rfl, _⟩ := h; rfl
  · obtain ⟨x, b, ps, rfl, hd, hs, hl4, hQ⟩ := h
    obtain ⟨a, xs, rfl, sq, da, hlen⟩ := cab_inv hd
    refine q_asgL (el_lst (ea1 ev_c) (by decide)) fun l0 H1 _ e1 hl0 => ?_
    refine q_forRev (b := b) (a := a) (xs := xs) (ev_var rfl) (sq.ex e1) (fun p0 i σ' H' => ∃ (l : Addr) (x2 x3 : Option V), σ' = [some (.ref a), some (.ref l), x2, x3, none, none, none, none, none] ∧ Ex H H' ∧ H' l = some (.lst ((shF (ps.drop (ps.length - i))).map V.int)) ∧ SqB K H' b p0 xs.reverse)
      (fun p0 H2 _ e2 hp0 => ⟨l0, none, none, rfl, e1.trans e2, by rw [Nat.sub_zero, List.drop_length]; exact e2 l0 _ hl0, hp0⟩) (fun p0 i σ' H' _ ⟨_, _, _, _, _, _, z⟩ => z) (fun p0 i x σ' H' hx ⟨l, x2, x3, es, e, hsh, hp0⟩ => ?_) (fun p0 σ' H' ⟨l, x2, x3, es, e, hsh, hp0⟩ => ?_)
    · subst es
      have hi : i < xs.length := by have := (List.getElem?_eq_some_iff.mp hx).1; rw [List.length_reverse] at this; exact this
      rw [List.getElem?_reverse hi] at hx
      obtain ⟨p, c, hp, rfl, hc⟩ := cab_at da hx
      have hj : ps.length - (i + 1) = xs.length - 1 - i := by omega
      have hj2 : ps.length - i = (xs.length - 1 - i) + 1 := by omega
      have hjl : xs.length - 1 - i < ps.length := by omega
      have eg : ps.getD (xs.length - 1 - i) (0, 0) = p := by rw [List.getD_eq_getElem?_getD, hp]; rfl
      have hsp := small_at hs (xs.length - 1 - i)
      have hstep := shF_drop hjl
      rw [eg] at hsp hstep
      rw [hj2] at hsh
      generalize shF (ps.drop (xs.length - 1 - i + 1)) = S at hsh hstep
      have hS : S.length ≤ 6 := by
        have h1 := congrArg List.length hstep
        rw [shF_len, List.length_drop] at h1
        simp at h1
        omega
      have hS0 : 0 < S.length := by
        have h1 := congrArg List.length hstep
        rw [shF_len, List.length_drop] at h1
        simp at h1
        omega
      refine ⟨c, _, rfl, ex_t e hc, rfl, _, _, rfl, _, _, rfl, rfl, ?_⟩
      refine s_asgL (el_cat (l := l) (el_lst (ea1 (v := .int (S.headD 0 * p.1)) (ev_op (ev_ixA (i := 0) (ev_var rfl) ev_c (SqB.l (sq_of hsh)) (atI_int (i := 0) hS0)) (ev_var rfl) ?_)) (by show (1 : Nat) ≤ 100000; decide)) (ev_var rfl) hsh (by rw [List.length_map]; show 1 + S.length ≤ 100000; omega)) fun l2 H2 _ e2 hl2 => ?_
      · rw [headD_getD]
        exact rv_I (cmul (.inr ⟨by omega, by omega⟩))
      · refine ⟨l2, _, _, rfl, e.trans e2, ?_, hp0.ex e2⟩
        rw [hj, hstep]
        exact hl2
    · subst es
      rw [hlen, Nat.sub_self, List.drop_zero] at hsh
      have hSl := shF_len ps
      refine q_parL (el_lst (ea1 (v := .int ((shF ps).headD 0)) (ev_is (ev_ixA (i := 0) (ev_var rfl) ev_c (SqB.l (sq_of hsh)) (atI_int (i := 0) (by omega))) (by rw [headD_getD]))) (by show (1 : Nat) ≤ 100000; decide)) ev_c fun f H2 hf e2 hfl => ?_
      have E2 := e.trans e2
      refine q_forEn (b := b) (a := a) (xs := xs) (ea1 (ev_var rfl)) (sq.ex E2) (fun k σ' H3 => ∃ (x2 x3 x6 x7 x8 : Option V) (ah : Int), σ' = [some (.ref a), some (.ref l), x2, x3, some (.ref f), some (.int ah), x6, x7, x8] ∧ Ex H' H3 ∧ H3 f = some (.lst ((foundL ps k).map V.int)) ∧ (0 < k → ah = (ps.getD (k - 1) (0, 0)).2))
        (fun H3 e3 => ⟨_, _, none, none, none, 0, rfl, e2.trans e3, e3 f _ hfl, fun z => absurd z (by decide)⟩) (fun k σ' H3 _ ⟨_, _, _, _, _, _, _, e3, _⟩ => sq.ex (e.trans e3)) (fun k x σ' H3 H4 hx ⟨x2, x3, x6, x7, x8, ah, es, e3, hfk, hah⟩ e4 => ?_) (fun σ' H3 ⟨x2, x3, x6, x7, x8, ah, es, e3, hfk, hah⟩ => ?_)
      · subst es
        obtain ⟨p, c, hp, rfl, hc⟩ := cab_at da hx
        have hk : k < ps.length := (List.getElem?_eq_some_iff.mp hp).1
        have eg : ps.getD k (0, 0) = p := by rw [List.getD_eq_getElem?_getD, hp]; rfl
        have hsp := small_at hs k
        have hsp1 := small_at hs (k - 1)
        have EH4 : Ex H H4 := (e.trans e3).trans e4
        have hfH4 := e4 f _ hfk
        have hshH4 := (e3.trans e4) l _ hsh
        have fk := foundL_len ps k
        -- the step
        have stepE : Ev _ _ H4 (.int (stepF ps k)) := ev_if (b := decide ((k : Nat) = 0)) (t := tTest (tOp rEq (tVar 6) (tC (.int 0)))) (σ := [some (.ref a), some (.ref l), x2, x3, some (.ref f), some (.int ah), some (.int (k : Nat)), some (.ref c), x8]) (ta := tOp (rIxA K) (tVar 7) (tC (.int 1))) (tb := tOp (rI0 fun i j => .int (i - j)) (tOp (rIxA K) (tVar 7) (tC (.int 1))) (tOp (rI CMul fun i j => .int (i * j)) (tOp (rI CMul fun i j => .int (i * j)) (tVar 5) (tOp (rIxA K) (tOp (rIxA K) (tVar 0) (tOp (rI0 fun i j => .int (i - j)) (tVar 6) (tC (.int 1)))) (tC (.int 0)))) (tOp (rIxA K) (tVar 7) (tC (.int 0)))))
          (et_is (et_test (ev_op (ev_var rfl) ev_c (rv_eq rfl))) ((nat_beq_v (n := k) (m := 0)).trans (by by_cases h : k = 0 <;> simp [h]))) (fun hz => ?_) (fun hz => ?_)
        · refine q_asg stepE fun H5 e5 => ?_
          have EH5 := EH4.trans e5
          refine q_app (e5 f _ hfH4) (ev_var rfl) (v := .int (accF ps (k + 1))) (ev_op (x := .int (accF ps k)) (y := .int (stepF ps k * (shF ps).getD (k + 1) 0)) ?_ (ev_op (ev_var rfl) (ev_ixA (i := ((k + 1 : Nat) : Int)) (ev_var rfl) (ev_is (ev_op (ev_var rfl) ev_c rv_I0) (by congr 1)) (SqB.l (sq_of (e5 l _ hshH4))) (atI_int (by omega))) (rv_I (.inl ?_))) rv_I0) (by rw [List.length_map, fk]; omega) fun H6 e6 => ?_
          · refine ev_if (b := decide ((0 : Int) < (k : Nat))) (et_test (ev_op (ev_var rfl) ev_c rv_I0)) (fun hz => ?_) (fun hz => ?_)
            · have hk0 : 0 < k := by have := of_decide_eq_true hz; omega
              refine ev_ixA (ev_var rfl) (ev_un ev_c ru_neg) (SqB.l (sq_of (e5 f _ hfH4))) (atI_m1 ?_)
              rw [List.length_map, fk, List.getElem?_map]
              obtain ⟨m, rfl⟩ : ∃ m, k = m + 1 := ⟨k - 1, by omega⟩
              have := foundL_last ps m
              rw [List.getD_eq_getElem?_getD] at this
              have hg : (foundL ps (m + 1))[m + 1]? = some (foundL ps (m + 1))[m + 1] := List.getElem?_eq_getElem (by rw [foundL_len]; omega)
              rw [hg] at this
              have hgoal : (foundL ps (m + 1))[m + 1 + 1 - 1]? = some (accF ps (m + 1)) := by
                show (foundL ps (m + 1))[m + 1]? = _
                rw [hg]; exact congrArg some this
              rw [hgoal]; rfl
            · have hk0 : k = 0 := by have := of_decide_eq_false hz; omega
              subst hk0
              exact ev_c
          · cases k with
            | zero => show -(2 ^ 64) < (ps.getD 0 (0, 0)).2 ∧ (ps.getD 0 (0, 0)).2 < 2 ^ 64; omega
            | succ m =>
              have h1 := mulb (mulb (nab hsp1.2) (nab hsp1.1)) (nab hsp.1)
              show -(2 ^ 64) < (ps.getD (m + 1) (0, 0)).2 - (ps.getD m (0, 0)).2 * (ps.getD m (0, 0)).1 * (ps.getD (m + 1) (0, 0)).1 ∧ (ps.getD (m + 1) (0, 0)).2 - (ps.getD m (0, 0)).2 * (ps.getD m (0, 0)).1 * (ps.getD (m + 1) (0, 0)).1 < 2 ^ 64
              have h2 : ((ps.getD m (0, 0)).2 * (ps.getD m (0, 0)).1 * (ps.getD (m + 1) (0, 0)).1).natAbs < 2 ^ 20 * 2 ^ 20 * 2 ^ 20 := h1
              omega
          · have EH7 : Ex H (upd H6 f (.lst ((foundL ps k).map V.int ++ [V.int (accF ps (k + 1))]))) := Ex.mut (EH5.trans e6) (fresh_back e hf)
            refine s_asg (v := .int (ps.getD k (0, 0)).2) (ev_ixA (b := true) (p := c) (xs := [.int p.1, .int p.2]) (i := 1) (ev_var rfl) ev_c (ex_t EH7 hc) (by rw [eg]; exact atI_n (i := 1) rfl)) fun H7 e7 => ?_
            refine ⟨x2, x3, _, _, _, (ps.getD k (0, 0)).2, rfl, (Ex.mut (((e3.trans e4).trans e5).trans e6) hf).trans e7, ?_, fun _ => rfl⟩
            rw [foundL_succ, List.map_append]
            exact e7 f _ upd_same
        · have hz' : k = 0 := of_decide_eq_true hz
          subst hz'
          exact ev_ixA (b := true) (p := c) (xs := [.int p.1, .int p.2]) (i := 1) (ev_var rfl) ev_c (ex_t EH4 hc) (by rw [← eg]; exact atI_n (i := 1) rfl)
        · have hz' : k ≠ 0 := of_decide_eq_false hz
          obtain ⟨m, rfl⟩ : ∃ m, k = m + 1 := ⟨k - 1, by omega⟩
          have ha := hah (by omega)
          obtain ⟨c2, hc2, hs2⟩ := cab_at' da (k := m) (by omega)
          have hm1 := small_at hs m
          have h1 := mulb (nab hm1.2) (nab hm1.1)
          have em : m + 1 - 1 = m := rfl
          rw [em] at ha
          rw [ha]
          refine ev_op (ev_ixA (b := true) (p := c) (xs := [.int p.1, .int p.2]) (i := 1) (ev_var rfl) ev_c (ex_t EH4 hc) (by rw [← eg]; exact atI_n (i := 1) rfl)) (ev_op (ev_op (ev_var rfl) (ev_ixA (b := true) (p := c2) (i := 0) (ev_ixA (i := (m : Int)) (ev_var rfl) (ev_is (ev_op (ev_var rfl) ev_c rv_I0) (by congr 1; omega)) (sq.ex EH4) (atI_n hc2)) ev_c (ex_t EH4 hs2) (atI_n (i := 0) rfl)) (rv_I (cmul (.inl ⟨by omega, by omega⟩)))) (ev_ixA (b := true) (p := c) (xs := [.int p.1, .int p.2]) (i := 0) (ev_var rfl) ev_c (ex_t EH4 hc) (by rw [← eg]; exact atI_n (i := 0) rfl)) (rv_I (cmul (.inr ⟨by omega, by omega⟩)))) rv_I0
      · subst es
        rw [hlen] at hfk
        refine s_retP (P := fun v H' => Dp K H' v (.tuple ((rowOf ps).map PyData.int))) ((ep_tupleOf (b := false) (R := fun xs _ => xs = (rowOf ps).map V.int) ((Ev.p (ev_var rfl)).imp fun v H4 e4 ev => ⟨f, _, ev, sq_of (e4 f _ hfk), rfl⟩) (fun _ _ _ _ z => z)).imp fun v H4 _ ⟨q, ys, ev, hs', hy⟩ => ?_) fun v H4 e4 hv => hQ v H4 ((e.trans e3).trans e4) hv
        subst ev hy
        exact Dp.tup hs' DpAll.ints
end
end K41
set_option maxHeartbeats 0
/-! The walks: settling a cable, its faults. -/
namespace K41
open PySem PySem.Spec PyProof.Rows L2 He TC Evl
section
variable {w : World} {h0 base : Heap} {K : PySem.W.Frag} {mg : Str → Option Value}
def sizesD (d : PyData) : Prop := (itemsD d).length ≤ 40000 ∧ ∀ e ∈ itemsD d, (itemsD e).length ≤ 40000
theorem brD_inv {H : Hp} {v : V} {s : Str} {i : Int} (h : Dp K H v (brD (some (s, i)))) : ∃ q, v = .ref q ∧ SqT K H q [.str s, .int i] := by
  obtain ⟨q, xs, rfl, sqx, hx⟩ := Dp.seq_inv (b := true) h
  have hxs : xs = [.str s, .int i] := by
    cases hx with
    | cons h1 h2 =>
      cases h1
      cases h2 with
      | cons h3 h4 => cases h3; cases h4; rfl
  exact ⟨q, rfl, hxs ▸ sqx⟩
theorem ep_row {te : TE} {σ : L2.St} {H : Hp} {x : V} {b : Bool} {ps : PL} (h : Ev te σ H x) (hd : Dp K H x (cabD b ps)) (hs : Small ps = true) (hl : ps.length ≤ 4) : EvP (tCall (sp_row_by_cable K) [] E0 (tCons te tNil)) σ H (fun v H1 => Dp K H1 v (.tuple ((rowOf ps).map PyData.int))) :=
  ep_call (ea1 h) fun H1 e Q q E => ⟨x, b, ps, rfl, Dp.ex e hd, hs, hl, q⟩
theorem ep_breach {te : TE} {σ : L2.St} {H : Hp} {x : V} {b : Bool} {ps : PL} (h : Ev te σ H x) (hd : Dp K H x (cabD b ps)) (hs : Small ps = true) : EvP (tCall (sp_cable_breach K) [] E0 (tCons te tNil)) σ H (fun v H1 => Dp K H1 v (brD (brOf ps))) :=
  ep_call (ea1 h) fun H1 e Q q E => ⟨x, b, ps, rfl, Dp.ex e hd, hs, q⟩
def sp_settle_cable (K : PySem.W.Frag) : Sp := fun vs H Q E => ∃ x d, vs = [x] ∧ Dp K H x d ∧ sizesD d ∧ ((goodCab d = false ∧ Err K "BadRow" "value" E H (fun v _ => v = x)) ∨ (∃ (b : Bool) (ps : PL), d = cabD b ps ∧ ps.length ≤ 4 ∧ Small ps = true ∧ ∀ v H', Ex H H' → AnA K v H' (ansOf ps) → Q v H'))
theorem ok_settle_cable (T : Wk h0 K mg base) : ClC (L2.CX PP w) PP w K mg base 4 "settle_cable" ["cable"] (sp_settle_cable K) := by
  obtain ⟨fd, F⟩ := f_settle_cable T
  refine ⟨_, fd, g_settle_cable T, F.kp, F.bindsN (fun _ _ _ _ _ _ us hl => match us, hl with | [_], _ => rfl), F.ok sc_settle_cable (fun vs H Q E h => ?_) (fun cdv A outer s H vs Q E hr h => ⟨_, (pss_cons (ps_expr (pe_clX (ok_need_pairs T) hr (by decide) (passes_call (takes_of rfl rfl rfl rfl) (fun _ _ _ _ h => h)) (by rfl) (pa_cons (pv 0) pa_nil))) (pss_cons (ps_set (i := 1) sc_settle_cable.nd rfl (Or.inl rfl) (pe_cl (ok_cable_breach T) hr (by decide) (by rfl) (pa_cons (pv 0) pa_nil))) (pss_one (ps_ret (pe_ifExp (pt_cmpR (op_isN) (pv 1) (pe_non) (nomark _)) (pe_mkc (ok_CableOf_init T) hr (by decide) (by rfl) (pa_cons (pe_cl (ok_row_by_cable T) hr (by decide) (by rfl) (pa_cons (pv 0) pa_nil)) pa_nil)) (pe_mkc (ok_NoCable_init T) hr (by decide) (by rfl) (pa_cons (pe_ix (ix_seqK (K := K) rfl) (pv 1) (pe_int) (fun _ _ => rfl)) (pa_cons (pe_ix (ix_seqK (K := K) rfl) (pv 1) (pe_int) (fun _ _ => rfl)) pa_nil)))))))), ?_⟩)⟩
  · obtain ⟨x, d, rfl, _⟩ := h; rfl
  · obtain ⟨x, d, rfl, hd, hz, hc⟩ := h
    rcases hc with ⟨hn, hE⟩ | ⟨b, ps, rfl, hl, hs, hQ⟩
    · exact q_dropCall (ea1 (ev_var rfl)) fun H1 e1 => ⟨x, d, rfl, Dp.ex e1 hd, hz.1, hz.2, fun hy => absurd (hn.symm.trans hy) Bool.false_ne_true, fun _ => hE.ex e1⟩
    · refine q_dropCall (ea1 (ev_var rfl)) fun H1 e1 => ⟨x, _, rfl, Dp.ex e1 hd, hz.1, hz.2, fun _ H2 e2 => ?_, fun hn => absurd (hn.symm.trans (goodCab_cab hl)) Bool.false_ne_true⟩
      have E2 := e1.trans e2
      refine q_asgP (ep_breach (ev_var rfl) (Dp.ex E2 hd) hs) fun bv H3 e3 hb => ?_
      have E3 := E2.trans e3
      refine s_retP (P := fun v H' => AnA K v H' (ansOf ps)) ?_ fun v H4 e4 hv => hQ v H4 (E3.trans e4) hv
      unfold ansOf
      cases hc : brOf ps with
      | none =>
        rw [hc] at hb
        cases hb
        refine ep_if (b := true) (et_test (ev_is (ev_isN (x := .non) (ev_var rfl)) (congrArg V.bl (decide_eq_true rfl)))) (fun _ => ?_) (fun h => by cases h)
        refine (ep_makeP (Pa := fun x H' => ∃ dx v', H' x = some (.ins (ga K "CableOf") dx [("row", v')]) ∧ Dp K H' v' (.tuple ((rowOf ps).map PyData.int))) (eap1 (ep_row (ev_var rfl) (Dp.ex E3 hd) hs hl)) fun vs H4 e4 ⟨v, hv, hd2⟩ => ?_).imp fun v H4 _ ⟨x, ev, dx, u, h1, h2⟩ => ⟨x, dx, u, ev, h1, h2⟩
        subst hv
        exact mk_CableOf (d := .tuple ((rowOf ps).map PyData.int)) hd2
      | some p =>
        obtain ⟨s, i⟩ := p
        rw [hc] at hb
        obtain ⟨q, rfl, sqx⟩ := brD_inv hb
        refine ep_if (b := false) (et_test (ev_is (ev_isN (x := .ref q) (ev_var rfl)) (congrArg V.bl (decide_eq_false (fun z => nomatch z))))) (fun h => by cases h) (fun _ => ?_)
        exact (ep_make (ea2 (ev_ixA (b := true) (i := 0) (ev_var rfl) ev_c sqx (atI_n (i := 0) rfl)) (ev_ixA (b := true) (i := 1) (ev_var rfl) ev_c sqx (atI_n (i := 1) rfl))) mk_No).imp fun v H2 _ ⟨x, ev, dx, h⟩ => ⟨x, dx, _, _, ev, h, .str s, .int i⟩
/-! cable_fault -/
def okAn : An → Prop
  | .cab (some ns) => ns.length ≤ 1000
  | _ => True
theorem ep_one {σ : L2.St} {H : Hp} {s : Str} : EvP (tTup (tCons (tC (.str s)) tNil)) σ H (fun v H1 => Dp K H1 v (one s)) :=
  (EvU.p (eu_tup (ea1 ev_c) (by show (1 : Nat) ≤ 100000; decide))).imp fun v H1 e ⟨a, ev, ha⟩ => ev ▸ Dp.tup (st_of ha) (.cons (.str s) .nil)
theorem s_retOne {σ : L2.St} {H : Hp} {D : Ends} {s : Str} {d : PyData} (e : d = one s) (k : ∀ v H1, Ex H H1 → Dp K H1 v d → D.rt v H1) : tRet (tTup (tCons (tC (.str s)) tNil)) D σ H := by
  subst e
  exact s_retP ep_one k
theorem tyX_cab {H : Hp} (T : Wk h0 K mg base) {x dx : Addr} {fs : List (Str × V)} (h : H x = some (.ins (ga K "CableOf") dx fs)) : TyX K H (.ref x) (.ref (ga K "CableOf")) := InsC.ty (insC T (x := "CableOf") (by decide)) h
theorem tyX_no {H : Hp} (T : Wk h0 K mg base) {x dx : Addr} {fs : List (Str × V)} (h : H x = some (.ins (ga K "NoCable") dx fs)) : TyX K H (.ref x) (.ref (ga K "NoCable")) := InsC.ty (insC T (x := "NoCable") (by decide)) h
/-- isinstance(answer, CableOf), isinstance(answer, NoCable) -/
def isCab : An → Bool
  | .cab _ => true
  | _ => false
def isNo : An → Bool
  | .no _ _ => true
  | _ => false
theorem ev_isCab {te : TE} {σ : L2.St} {H : Hp} {v : V} {an : An} (T : Wk h0 K mg base) (h : Ev te σ H v) (ha : AnA K v H an) : Ev (tCB (rIsi K) (tCons te (tCons (tC (.ref (ga K "CableOf"))) tNil))) σ H (.bl (isCab an)) := by
  cases an with
  | cab r => obtain ⟨x, dx, u, rfl, h1, h2⟩ := ha; exact ev_isi h (.own _) (tyX_cab T h1) (kit T (q := (.inr "CableOf", .inr "CableOf", true)) (by decide))
  | no w i => obtain ⟨x, dx, v1, v2, rfl, h1, _⟩ := ha; exact ev_isi h (.own _) (tyX_no T h1) (kit T (q := (.inr "NoCable", .inr "CableOf", false)) (by decide))
  | flat b => cases b with
    | true => exact ev_isi h (.own _) (Dp.tyX (d := .none) ha) (kit T (q := (.inl "NoneType", .inr "CableOf", false)) (by decide))
    | false => exact ev_isi h (.own _) (Dp.tyX (d := .int 5) ha) (kit T (q := (.inl "int", .inr "CableOf", false)) (by decide))
theorem ev_isNo {te : TE} {σ : L2.St} {H : Hp} {v : V} {an : An} (T : Wk h0 K mg base) (h : Ev te σ H v) (ha : AnA K v H an) : Ev (tCB (rIsi K) (tCons te (tCons (tC (.ref (ga K "NoCable"))) tNil))) σ H (.bl (isNo an)) := by
  cases an with
  | cab r => obtain ⟨x, dx, u, rfl, h1, h2⟩ := ha; exact ev_isi h (.own _) (tyX_cab T h1) (kit T (q := (.inr "CableOf", .inr "NoCable", false)) (by decide))
  | no w i => obtain ⟨x, dx, v1, v2, rfl, h1, _⟩ := ha; exact ev_isi h (.own _) (tyX_no T h1) (kit T (q := (.inr "NoCable", .inr "NoCable", true)) (by decide))
  | flat b => cases b with
    | true => exact ev_isi h (.own _) (Dp.tyX (d := .none) ha) (kit T (q := (.inl "NoneType", .inr "NoCable", false)) (by decide))
    | false => exact ev_isi h (.own _) (Dp.tyX (d := .int 5) ha) (kit T (q := (.inl "int", .inr "NoCable", false)) (by decide))
def sp_cable_fault (K : PySem.W.Frag) : Sp := fun vs H Q E => ∃ x y d, vs = [x, y] ∧ Dp K H x d ∧ sizesD d ∧ ((goodCab d = false ∧ Err K "BadRow" "value" E H (fun v _ => v = x)) ∨
  (∃ (b : Bool) (ps : PL) (an : An), d = cabD b ps ∧ ps.length ≤ 4 ∧ Small ps = true ∧ AnA K y H an ∧ okAn an ∧ ∀ v H', Ex H H' → Dp K H' v (faultOf ps an) → Q v H'))
theorem ok_cable_fault (T : Wk h0 K mg base) : ClC (L2.CX PP w) PP w K mg base 4 "cable_fault" ["cable", "answer"] (sp_cable_fault K) := by
  obtain ⟨fd, F⟩ := f_cable_fault T
  refine ⟨_, fd, g_cable_fault T, F.kp, F.bindsN (fun _ _ _ _ _ _ us hl => match us, hl with | [_, _], _ => rfl), F.ok sc_cable_fault (fun vs H Q E h => ?_) (fun cdv A outer s H vs Q E hr h => ⟨_, (pss_cons (ps_expr (pe_clX (ok_need_pairs T) hr (by decide) (passes_call (takes_of rfl rfl rfl rfl) (fun _ _ _ _ h => h)) (by rfl) (pa_cons (pv 0) pa_nil))) (pss_cons (ps_set (i := 2) sc_cable_fault.nd rfl (Or.inl rfl) (pe_cl (ok_cable_breach T) hr (by decide) (by rfl) (pa_cons (pv 0) pa_nil))) (pss_cons (ps_if (pt_val (pe_callB (call_isi1 (K := K) rfl) (by rfl) (m_isinstance T) boot_isinstance (pa_cons (pv 1) (pa_cons (pe_glob (v := .ref (ga K "CableOf")) (by rfl) (g_CableOf T) rfl) pa_nil)))) (pss_cons (ps_if (pt_cmpR (op_notN) (pv 2) (pe_non) (nomark _)) (pss_one (ps_ret (pe_tup (pa_cons (pe_str) pa_nil)))) pss_nil) (pss_one (ps_ret (pe_ifExp (PW.pt (pw_and (pt_val (pe_cl (ok_is_integers T) hr (by decide) (by rfl) (pa_cons (pe_fld (pv 1) rfl) pa_nil))) (pw_and1 (pt_cmpR (op_eqD (hu64 hr)) (pe_fld (pv 1) rfl) (pe_cl (ok_row_by_cable T) hr (by decide) (by rfl) (pa_cons (pv 0) pa_nil)) (nomark _))))) (pe_non) (pe_tup (pa_cons (pe_str) pa_nil)))))) pss_nil) (pss_cons (ps_if (pt_not (pt_val (pe_callB (call_isi1 (K := K) rfl) (by rfl) (m_isinstance T) boot_isinstance (pa_cons (pv 1) (pa_cons (pe_glob (v := .ref (ga K "NoCable")) (by rfl) (g_NoCable T) rfl) pa_nil))))) (pss_one (ps_ret (pe_tup (pa_cons (pe_str) pa_nil)))) pss_nil) (pss_cons (ps_if (pt_cmpR (op_isN) (pv 2) (pe_non) (nomark _)) (pss_one (ps_ret (pe_tup (pa_cons (pe_str) pa_nil)))) pss_nil) (pss_cons (ps_if (PW.pt (pw_or (pt_not (pt_val (pe_callB (call_isi1 (K := K) rfl) (by rfl) (m_isinstance T) boot_isinstance (pa_cons (pe_fld (pv 1) rfl) (pa_cons (pe_bltn (v := .ty "str") (by rfl) (m_str T) (by decide +kernel) rfl) pa_nil))))) (pw_or1 (pt_cmpR (op_ne) (pe_fld (pv 1) rfl) (pe_ix (ix_seqK (K := K) rfl) (pv 2) (pe_int) (fun _ _ => rfl)) (nomark _))))) (pss_one (ps_ret (pe_tup (pa_cons (pe_str) pa_nil)))) pss_nil) (pss_one (ps_ret (pe_ifExp (PW.pt (pw_and (pt_val (pe_cl (ok_is_integer T) hr (by decide) (by rfl) (pa_cons (pe_fld (pv 1) rfl) pa_nil))) (pw_and1 (pt_cmpR (op_eq) (pe_fld (pv 1) rfl) (pe_ix (ix_seqK (K := K) rfl) (pv 2) (pe_int) (fun _ _ => rfl)) (nomark _))))) (pe_non) (pe_tup (pa_cons (pe_str) pa_nil))))))))))), ?_⟩)⟩
  · obtain ⟨x, y, d, rfl, _⟩ := h; rfl
  · obtain ⟨x, y, d, rfl, hd, hz, hc⟩ := h
    rcases hc with ⟨hn, hE⟩ | ⟨b, ps, an, rfl, hl, hs, han, hok, hQ⟩
    · exact q_dropCall (ea1 (ev_var rfl)) fun H1 e1 => ⟨x, d, rfl, Dp.ex e1 hd, hz.1, hz.2, fun hy => absurd (hn.symm.trans hy) Bool.false_ne_true, fun _ => hE.ex e1⟩
    refine q_dropCall (ea1 (ev_var rfl)) fun H1 e1 => ⟨x, _, rfl, Dp.ex e1 hd, hz.1, hz.2, fun _ H2 e2 => ?_, fun hn => absurd (hn.symm.trans (goodCab_cab hl)) Bool.false_ne_true⟩
    have E2 := e1.trans e2
    refine q_asgP (ep_breach (ev_var rfl) (Dp.ex E2 hd) hs) fun bv H3 e3 hb => ?_
    have E3 := E2.trans e3
    refine q_when (et_B (ev_isCab T (ev_var rfl) (AnA.ex E3 han))) (fun h1 H4 e4 => ?_) (fun h1 H4 e4 => ?_)
    · cases an with
      | no _ _ => cases h1
      | flat _ => cases h1
      | cab r =>
        have E4 := E3.trans e4
        obtain ⟨y1, dy, u, rfl, hy, hu⟩ := AnA.ex E4 han
        have hQ' : ∀ v H', Ex H4 H' → Dp K H' v (faultOf ps (.cab r)) → Q v H' := fun v H' e hv => hQ v H' (E4.trans e) hv
        cases hc : brOf ps with
        | some p =>
          obtain ⟨s, i⟩ := p
          rw [hc] at hb
          obtain ⟨q, rfl, sqx⟩ := brD_inv hb
          refine q_when (b := true) (et_test (ev_is (ev_notN (x := .ref q) (ev_var rfl)) (congrArg V.bl (by rw [decide_eq_false (fun z => nomatch z)]; rfl)))) (fun _ H5 e5 => ?_) (fun h => by cases h)
          exact s_retOne (d := faultOf ps (.cab r)) (by unfold faultOf; rw [hc]; rfl) fun v H6 e6 hv => hQ' v H6 (e5.trans e6) hv
        | none =>
          rw [hc] at hb
          cases hb
          refine q_when (b := false) (et_test (ev_is (ev_notN (x := .non) (ev_var rfl)) (congrArg V.bl (by rw [decide_eq_true rfl]; rfl)))) (fun h => by cases h) (fun _ H5 e5 => ?_)
          have hfo : faultOf ps (.cab r) = if r = some (rowOf ps) then .none else one "row" := by unfold faultOf; rw [hc]; rfl
          have hy5 := e5 _ _ hy
          have hu5 := Dp.ex e5 hu
          have fld : ∀ {σ : L2.St} {te : TE} {H6 : Hp}, Ex H5 H6 → Ev te σ H6 (.ref y1) → Ev (tFld K te "row") σ H6 u := fun {σ te H6} e h => ev_fld h (e _ _ hy5) (c_CableOf T) (n_CableOf_row T) rfl
          have rowL : (itemsD (rD r)).length ≤ 40000 := by
            cases r with
            | none => exact Nat.zero_le _
            | some ns =>
              show (ns.map PyData.int).length ≤ 40000
              rw [List.length_map]
              have hok' : ns.length ≤ 1000 := hok
              omega
          refine s_retP (P := fun v H' => Dp K H' v (faultOf ps (.cab r))) (ep_if (b := decide (r = some (rowOf ps))) ?_ (fun hy => ?_) (fun hn => ?_)) fun v H6 e6 hv => hQ' v H6 (e5.trans e6) hv
          · cases r with
            | none => exact et_is (et_and (b := false) (et_B (ev_is_integers (fld (Ex.refl _) (ev_var rfl)) hu5 rowL)) (fun h => by cases h)) (by rw [decide_eq_false (fun z => nomatch z)]; rfl)
            | some ns =>
              refine et_is (et_and (b := PyData.eqv (seqD true (ns.map PyData.int)) (seqD true ((rowOf ps).map PyData.int))) (et_B (ev_is_integers (fld (Ex.refl _) (ev_var rfl)) hu5 rowL)) (fun _ => et_test (ep_eqD ((Ev.p (fld (Ex.refl _) (ev_var rfl))).imp fun v H6 e ev => ev ▸ Dp.ex e hu5) (ep_row (ev_var rfl) (Dp.ex (E4.trans e5) hd) hs hl) (shaped_ints (b := true)) (shaped_ints (b := true))))) ?_
              rw [eqv_ints]
              have hi : isInts (rD (some ns)) = true := isInts_seq (b := true)
              rw [hi, Bool.true_and]
              exact decide_eq_decide.mpr ⟨fun h => by rw [h], fun h => by injection h⟩
          · rw [hfo, if_pos (of_decide_eq_true hy)]
            exact (Ev.p ev_c).imp fun v H' _ e => e ▸ Dp.non
          · rw [hfo, if_neg (of_decide_eq_false hn)]
            exact ep_one
    have E4 := E3.trans e4
    have hQ' : ∀ v H', Ex H4 H' → Dp K H' v (faultOf ps an) → Q v H' := fun v H' e hv => hQ v H' (E4.trans e) hv
    refine q_when (et_not (et_B (ev_isNo T (ev_var rfl) (AnA.ex E4 han)))) (fun h2 H5 e5 => ?_) (fun h2 H5 e5 => ?_)
    · cases an with
      | cab _ => cases h1
      | no _ _ => cases h2
      | flat c => exact s_retOne (d := faultOf ps (.flat c)) rfl fun v H6 e6 hv => hQ' v H6 (e5.trans e6) hv
    cases an with
    | cab _ => cases h1
    | flat _ => cases h2
    | no w i =>
      have E5 := E4.trans e5
      obtain ⟨y1, dy, v1, v2, rfl, hy, p1, p2⟩ := AnA.ex E5 han
      cases hc : brOf ps with
      | none =>
        rw [hc] at hb
        cases hb
        refine q_when (b := true) (et_test (ev_is (ev_isN (x := .non) (ev_var rfl)) (congrArg V.bl (decide_eq_true rfl)))) (fun _ H6 e6 => ?_) (fun h => by cases h)
        exact s_retOne (d := faultOf ps (.no w i)) (by unfold faultOf; rw [hc]) fun v H7 e7 hv => hQ' v H7 ((e5.trans e6).trans e7) hv
      | some p =>
        obtain ⟨s, j⟩ := p
        rw [hc] at hb
        obtain ⟨q, rfl, sqx⟩ := brD_inv hb
        have hfo : faultOf ps (.no w i) = if w ≠ some s then one "why" else if i = .inl j then .none else one "index" := by unfold faultOf; rw [hc]
        refine q_when (b := false) (et_test (ev_is (ev_isN (x := .ref q) (ev_var rfl)) (congrArg V.bl (decide_eq_false (fun z => nomatch z))))) (fun h => by cases h) (fun _ H6 e6 => ?_)
        have why : ∀ {σ : L2.St} {te : TE} {H7 : Hp}, Ex H5 H7 → Ev te σ H7 (.ref y1) → Ev (tFld K te "why") σ H7 v1 := fun {σ te H7} e h => ev_fld h (e _ _ hy) (c_NoCable T) (n_NoCable_why T) rfl
        have idx : ∀ {σ : L2.St} {te : TE} {H7 : Hp}, Ex H5 H7 → Ev te σ H7 (.ref y1) → Ev (tFld K te "index") σ H7 v2 := fun {σ te H7} e h => ev_fld h (e _ _ hy) (c_NoCable T) (n_NoCable_index T) rfl
        have sqx6 : SqT K H6 q [.str s, .int j] := ex_t ((e4.trans e5).trans e6) sqx
        refine q_when (b := decide (w ≠ some s)) ?_ (fun hw H7 e7 => ?_) (fun hw H7 e7 => ?_)
        · cases w with
          | none =>
            cases p1
            exact et_is (et_or (b := false) (et_not (et_B (ev_isi (why e6 (ev_var rfl)) (.ty _) (.base .non) (kit_ty (a := "NoneType") (b := "str") (r := false) (by decide +kernel))))) (fun h => by cases h)) (by have h : decide ((none : Option Str) ≠ some s) = true := decide_eq_true (fun z => nomatch z); rw [h]; rfl)
          | some z =>
            cases p1
            refine et_is (et_or (a := !true) (b := !decide (V.str z = V.str s)) (et_not (et_B (ev_isi (why e6 (ev_var rfl)) (.ty _) (.base (.str z)) (kit_ty (a := "str") (b := "str") (r := true) (by decide +kernel))))) (fun _ => et_test (ev_op (why e6 (ev_var rfl)) (ev_ixA (b := true) (i := 0) (ev_var rfl) ev_c sqx6 (atI_n (i := 0) rfl)) (rv_ne rfl)))) ?_
            by_cases hzs : z = s
            · subst hzs; simp
            · have h3 : decide (V.str z = V.str s) = false := decide_eq_false (fun h => hzs (by injection h))
              have h4 : decide (some z ≠ some s) = true := decide_eq_true (fun h => hzs (by injection h))
              rw [h3, h4]; rfl
        · exact s_retOne (d := faultOf ps (.no w i)) (by rw [hfo, if_pos (of_decide_eq_true hw)]) fun v H8 e8 hv => hQ' v H8 (((e5.trans e6).trans e7).trans e8) hv
        rw [if_neg (of_decide_eq_false hw)] at hfo
        have E67 := e6.trans e7
        refine s_retP (P := fun v H' => Dp K H' v (faultOf ps (.no w i))) (ep_if (b := decide (i = .inl j)) ?_ (fun hy' => ?_) (fun hn => ?_)) fun v H8 e8 hv => hQ' v H8 (((e5.trans e6).trans e7).trans e8) hv
        · cases i with
          | inl n =>
            cases p2
            refine et_is (et_and (b := decide (V.int n = V.int j)) (et_B (ev_is_integer (idx E67 (ev_var rfl)) (.int n))) (fun _ => et_test (ev_op (idx E67 (ev_var rfl)) (ev_ixA (b := true) (i := 1) (ev_var rfl) ev_c (ex_t e7 sqx6) (atI_n (i := 1) rfl)) (rv_eq rfl)))) ?_
            show (true && decide (V.int n = V.int j)) = _
            rw [Bool.true_and]
            exact decide_eq_decide.mpr ⟨fun h => by injection h with h; rw [h], fun h => by injection h with h; rw [h]⟩
          | inr c =>
            cases p2
            exact et_is (et_and (b := false) (et_B (ev_is_integer (idx E67 (ev_var rfl)) (.bl c))) (fun h => by cases h)) (by rw [decide_eq_false (fun z => nomatch z)]; rfl)
        · rw [hfo, if_pos (of_decide_eq_true hy')]
          exact (Ev.p ev_c).imp fun v H' _ e => e ▸ Dp.non
        · rw [hfo, if_neg (of_decide_eq_false hn)]
          exact ep_one
end
end K41
set_option maxHeartbeats 0
/-! The walks: cables of rows, generators. -/
namespace K41
open PySem PySem.Spec PyProof.Rows L2 He TC Evl
/-! the plain functions -/
def sS (ns : List Int) (k : Nat) : Int := (shares ns).getD k 0
def sN (ns : List Int) (k : Nat) : Int := ns.getD k 0
def pF (ns : List Int) (k : Nat) : Int := (sS ns (k - 1)).fdiv (sS ns k)
def aF (ns : List Int) : Nat → Int
  | 0 => 0
  | k + 1 => if k = 0 then (sN ns 1).fdiv (sS ns 1) else aF ns k * pF ns k * pF ns (k + 1) + (sN ns (k + 1) - sN ns k).fdiv (sS ns (k + 1))
def cabUp (ns : List Int) (k : Nat) : PL := (List.range k).map fun j => (pF ns (j + 1), aF ns (j + 1))
def cabOf (ns : List Int) : PL := cabUp ns (ns.length - 1)
def gF (ns : List Int) : Nat → Int
  | 0 => sN ns 0
  | 1 => sN ns 1
  | k + 2 => gF ns (k + 1) * (sS ns k).fdiv (sS ns (k + 1)) + sN ns (k + 2) - sN ns (k + 1)
def genUp (ns : List Int) (k : Nat) : List Int := (List.range k).map (gF ns)
def genOf (ns : List Int) : List Int := genUp ns ns.length
def bnd (i : Int) : Bool := decide (-(2 ^ 60) < i) && decide (i < 2 ^ 60)
theorem bnd_iff {i : Int} (h : bnd i = true) : -(2 ^ 60) < i ∧ i < 2 ^ 60 := by
  obtain ⟨h1, h2⟩ := ba h
  exact ⟨of_decide_eq_true h1, of_decide_eq_true h2⟩
def okAt (ns : List Int) (k : Nat) : Bool := (decide (0 < sS ns k) && decide (sS ns k < 2 ^ 30)) && (bnd (aF ns k) && (bnd (pF ns k) && bnd (gF ns k)))
def okRow (ns : List Int) : Bool := (chBreach ns).isNone && (decide (0 < ns.length ∧ ns.length ≤ 5) && (List.range ns.length).all (okAt ns))
structure OkRow (ns : List Int) : Prop where
  br : chBreach ns = none
  len : ns.length ≤ 5
  pos : 0 < ns.length
  s0 : ∀ k, k < ns.length → 0 < sS ns k
  s1 : ∀ k, k < ns.length → sS ns k < 2 ^ 30
  a : ∀ k, k < ns.length → -(2 ^ 60) < aF ns k ∧ aF ns k < 2 ^ 60
  p : ∀ k, k < ns.length → -(2 ^ 60) < pF ns k ∧ pF ns k < 2 ^ 60
  g : ∀ k, k < ns.length → -(2 ^ 60) < gF ns k ∧ gF ns k < 2 ^ 60
theorem okRow_iff {ns : List Int} (h : okRow ns = true) : OkRow ns := by
  obtain ⟨h1, h⟩ := ba h
  obtain ⟨h2, h3⟩ := ba h
  have h2' := of_decide_eq_true h2
  have at_ : ∀ k, k < ns.length → okAt ns k = true := fun k hk => List.all_eq_true.mp h3 k (List.mem_range.mpr hk)
  have sp : ∀ k, k < ns.length → (0 < sS ns k ∧ sS ns k < 2 ^ 30) ∧ bnd (aF ns k) = true ∧ bnd (pF ns k) = true ∧ bnd (gF ns k) = true := fun k hk => by
    obtain ⟨z1, z2⟩ := ba (at_ k hk)
    obtain ⟨z3, z4⟩ := ba z1
    obtain ⟨z5, z6⟩ := ba z2
    obtain ⟨z7, z8⟩ := ba z6
    exact ⟨⟨of_decide_eq_true z3, of_decide_eq_true z4⟩, z5, z7, z8⟩
  refine ⟨Option.isNone_iff_eq_none.mp h1, h2'.2, h2'.1, fun k hk => (sp k hk).1.1, fun k hk => (sp k hk).1.2, fun k hk => bnd_iff (sp k hk).2.1, fun k hk => bnd_iff (sp k hk).2.2.1, fun k hk => bnd_iff (sp k hk).2.2.2⟩
theorem cabUp_len (ns : List Int) (k : Nat) : (cabUp ns k).length = k := by unfold cabUp; simp
theorem cabUp_succ (ns : List Int) (k : Nat) : cabUp ns (k + 1) = cabUp ns k ++ [(pF ns (k + 1), aF ns (k + 1))] := by
  unfold cabUp
  rw [List.range_succ, List.map_append]
  rfl
theorem genUp_len (ns : List Int) (k : Nat) : (genUp ns k).length = k := by unfold genUp; simp
theorem genUp_succ (ns : List Int) (k : Nat) : genUp ns (k + 1) = genUp ns k ++ [gF ns k] := by
  unfold genUp
  rw [List.range_succ, List.map_append]
  rfl
section
variable {w : World} {h0 base : Heap} {K : PySem.W.Frag} {mg : Str → Option Value}
theorem prs_X {H H' : Hp} {f : Addr} {zs : List V} (hf : H f = some (.lst zs)) (e : ExX f H H') : ∀ {ps : PL} {xs : List V}, DpAll K H xs (ps.map prD) → DpAll K H' xs (ps.map prD)
  | [], _, h => by cases h; exact .nil
  | p :: ps, _, h => by
    rw [List.map_cons] at h
    cases h with
    | cons h1 h2 =>
      rw [List.map_cons]
      refine .cons ?_ (prs_X hf e h2)
      obtain ⟨c, rfl, hc⟩ := pair_inv h1
      refine pair_of ?_
      rcases hc with (hc | ⟨o, hc⟩) | hc
      · exact .inl (.inl (e c _ (fun z => by rw [z, hf] at hc; cases hc) hc))
      · exact .inl (.inr ⟨o, e c _ (fun z => by rw [z, hf] at hc; cases hc) hc⟩)
      · exact .inr hc
theorem q_parLL {σ : L2.St} {H : Hp} {te tx : TE} {tz : TS} {D : Ends} {i j : Nat} {xs ys : List V} (h : EvL te σ H xs) (h2 : EvL tx σ H ys) (k : ∀ p q H1, H p = none → H q = none → Ex H H1 → H1 p = some (.lst xs) → H1 q = some (.lst ys) → tz D ((σ.set i (some (.ref p))).set j (some (.ref q))) H1) : tSeq (tPar i j (tCons te (tCons tx tNil))) tz D σ H :=
  h H (Ex.refl H) _ fun p H1 hp e h1 => h2 H1 e _ fun q H2 hq e2 h2 => ⟨_, _, rfl, k p q H2 hp (fresh_back e hq) (e.trans e2) (e2 p _ h1) h2⟩
def sp_cable_of (K : PySem.W.Frag) : Sp := fun vs H Q _ => ∃ (a : Addr) (ns : List Int), vs = [.ref a] ∧ SqT K H a (ns.map V.int) ∧ okRow ns = true ∧ ∀ v H', Ex H H' → Dp K H' v (cabD false (cabOf ns)) → Q v H'
theorem ok_cable_of (T : Wk h0 K mg base) : ClC CX0 PP w K mg base 2 "cable_of" ["row"] (sp_cable_of K) := by
  obtain ⟨fd, F⟩ := f_cable_of T
  refine ⟨_, fd, g_cable_of T, F.kp, F.bindsN (fun _ _ _ _ _ _ us hl => match us, hl with | [_], _ => rfl), F.ok sc_cable_of (fun vs H Q E h => ?_) (fun cdv A outer s H vs Q E hr h => ⟨_, PSs.nox (pss_cons (ps_par (i := 1) (j := 2) (by rfl) sc_cable_of.nd rfl rfl (by decide) rfl rfl (pa_cons (pe_cl (ok_shares_of T) hr (by decide) (by rfl) (pa_cons (pv 0) pa_nil)) (pa_cons (pe_lst pa_nil) pa_nil)) (by rfl)) (pss_cons (ps_for PassesOwn.never rfl (pi_range2 (by rfl) (m_range T) (pa_cons (pe_int) (pa_cons (pe_callB (call_lenK (K := K) rfl) (by rfl) (m_len T) boot_len (pa_cons (pv 0) pa_nil)) pa_nil))) (pg_name (i := 3) sc_cable_of.nd rfl (Or.inl rfl)) (pss_cons (ps_set (i := 4) sc_cable_of.nd rfl (Or.inl rfl) (pe_op op_fdivN (pe_ix (ix_seqK (K := K) rfl) (pv 1) (pe_op op_sub (pv 3) (pe_int)) (fun _ _ => rfl)) (pe_ix (ix_seqK (K := K) rfl) (pv 1) (pv 3) (fun _ _ => rfl)))) (pss_one (ps_if (pt_cmpR (op_eq) (pv 3) (pe_int) (nomark _)) (pss_one (ps_expr (pe_bm PySem.F.plainAttrs_list PySem.F.slot_list_append PySem.F.type_list_append mt_append (pv 2) (pa_cons (pe_tup (pa_cons (pv 4) (pa_cons (pe_op op_fdivN (pe_ix (ix_seqK (K := K) rfl) (pv 0) (pe_int) (fun _ _ => rfl)) (pe_ix (ix_seqK (K := K) rfl) (pv 1) (pe_int) (fun _ _ => rfl))) pa_nil))) pa_nil)))) (pss_one (ps_expr (pe_bm PySem.F.plainAttrs_list PySem.F.slot_list_append PySem.F.type_list_append mt_append (pv 2) (pa_cons (pe_tup (pa_cons (pv 4) (pa_cons (pe_op op_add (pe_op op_mul (pe_op op_mul (pe_ix (ix_seqK (K := K) rfl) (pe_ix (ix_seqK (K := K) rfl) (pv 2) (pe_un un_neg (pe_int)) (fun _ _ => rfl)) (pe_int) (fun _ _ => rfl)) (pe_ix (ix_seqK (K := K) rfl) (pe_ix (ix_seqK (K := K) rfl) (pv 2) (pe_un un_neg (pe_int)) (fun _ _ => rfl)) (pe_int) (fun _ _ => rfl))) (pv 4)) (pe_op op_fdivN (pe_op op_sub (pe_ix (ix_seqK (K := K) rfl) (pv 0) (pv 3) (fun _ _ => rfl)) (pe_ix (ix_seqK (K := K) rfl) (pv 0) (pe_op op_sub (pv 3) (pe_int)) (fun _ _ => rfl))) (pe_ix (ix_seqK (K := K) rfl) (pv 1) (pv 3) (fun _ _ => rfl)))) pa_nil))) pa_nil)))))))) (pss_one (ps_ret (pv 2))))), ?_⟩)⟩
  · obtain ⟨a, ns, rfl, _⟩ := h; rfl
  · obtain ⟨a, ns, rfl, sq, hok, hQ⟩ := h
    have ok := okRow_iff hok
    have hl5 := ok.len
    refine q_parLL (el_shares (b := true) (ev_var rfl) sq (by omega)) (el_lst ea_nil (by decide)) fun l f H1 hl hf e1 hl1 hf1 => ?_
    have slen : (shares ns).length = ns.length := shGo_len ns 0
    have shi : ∀ {σ : L2.St} {te ti : TE} {H' : Hp} {i : Nat}, Ex H1 H' → i < ns.length → Ev te σ H' (.ref l) → Ev ti σ H' (.int (i : Int)) → Ev (tOp (rIxA K) te ti) σ H' (.int (sS ns i)) := fun {σ te ti H' i} e hi h h2 => ev_ixA h h2 (SqB.l (sq_of (e l _ hl1))) (atI_int (by omega))
    have rwi : ∀ {σ : L2.St} {te ti : TE} {H' : Hp} {i : Nat}, Ex H H' → i < ns.length → Ev te σ H' (.ref a) → Ev ti σ H' (.int (i : Int)) → Ev (tOp (rIxA K) te ti) σ H' (.int (sN ns i)) := fun {σ te ti H' i} e hi h h2 => ev_ixA (b := true) h h2 (ex_t e sq) (atI_int hi)
    have prev : ∀ {σ : L2.St} {te : TE} {H1 : Hp} {i : Nat}, 1 ≤ i → Ev te σ H1 (.int (i : Int)) → Ev (tOp (rI0 fun i j => .int (i - j)) te (tC (.int 1))) σ H1 (.int ((i - 1 : Nat) : Int)) := fun {σ te H1 i} h1 h => ev_is (ev_op h ev_c rv_I0) (by congr 1; omega)
    refine q_forR2 (lo := 1) (n := (ns.length : Int)) (ea2 ev_c (ev_is (ev_lenA (b := true) (ev_var rfl) (ex_t e1 sq)) (by rw [List.length_map]))) ⟨by decide, by decide, by omega, by omega⟩
      (fun i σ' H' => ∃ (x3 x4 : Option V) (xs : List V), σ' = [some (.ref a), some (.ref l), some (.ref f), x3, x4] ∧ Ex H H' ∧ H' l = some (.lst ((shares ns).map V.int)) ∧ H' f = some (.lst xs) ∧ DpAll K H' xs ((cabUp ns i).map prD))
      (fun H2 e2 => ⟨none, none, [], rfl, e1.trans e2, e2 l _ hl1, e2 f _ hf1, .nil⟩) (fun i σ' H' hi ⟨x3, x4, xs, es, e, hl2, hf2, hd⟩ => ?_) (fun σ' H' ⟨x3, x4, xs, es, e, hl2, hf2, hd⟩ => ?_)
    · subst es
      have hi' : i + 1 < ns.length := by omega
      have ei : (1 : Int) + (i : Int) = ((i + 1 : Nat) : Int) := by omega
      rw [ei]
      have hxl : xs.length = i := by have := DpAll.length hd; rw [List.length_map, cabUp_len] at this; exact this
      have shi : ∀ {σ : L2.St} {te ti : TE} {H2 : Hp} {i : Nat}, Ex H' H2 → i < ns.length → Ev te σ H2 (.ref l) → Ev ti σ H2 (.int (i : Int)) → Ev (tOp (rIxA K) te ti) σ H2 (.int (sS ns i)) := fun {σ te ti H' i} e hi h h2 => ev_ixA h h2 (SqB.l (sq_of (e l _ hl2))) (atI_int (by omega))
      have dv : ∀ {j : Nat}, j < ns.length → CDivN (sS ns j) (sS ns j) → True := fun _ _ => True.intro
      have s0 := ok.s0 (i + 1) hi'
      have s1 := ok.s1 (i + 1) hi'
      refine q_asg (v := .int (pF ns (i + 1))) (ev_op (shi (i := i) (Ex.refl _) (by omega) (ev_var rfl) (prev (i := i + 1) (by omega) (ev_var rfl))) (shi (i := i + 1) (Ex.refl _) hi' (ev_var rfl) (ev_var rfl)) (rv_I ⟨by omega, by omega⟩)) fun H2 e2 => ?_
      have fin : ∀ v H3, Ex H2 H3 → Dp K H3 v (prD (pF ns (i + 1), aF ns (i + 1))) → ∃ (x3 x4 : Option V) (ys : List V), [some (.ref a), some (.ref l), some (.ref f), some (.int ((i + 1 : Nat) : Int)), some (.int (pF ns (i + 1)))] = [some (.ref a), some (.ref l), some (.ref f), x3, x4] ∧ Ex H (upd H3 f (.lst (xs ++ [v]))) ∧ (upd H3 f (.lst (xs ++ [v]))) l = some (.lst ((shares ns).map V.int)) ∧ (upd H3 f (.lst (xs ++ [v]))) f = some (.lst ys) ∧ DpAll K (upd H3 f (.lst (xs ++ [v]))) ys ((cabUp ns (i + 1)).map prD) := fun v H3 e3 hv => by
        have hlf : l ≠ f := fun z => by
          have h1 := hl1; have h2 := hf1
          rw [z, h2] at h1
          have h3 := congrArg (fun o : Option HO => match o with | some (.lst ys) => ys.length | _ => 0) h1
          simp at h3
          omega
        have hf3 : H3 f = some (.lst xs) := e3 f _ (e2 f _ hf2)
        refine ⟨_, _, xs ++ [v], rfl, Ex.mut ((e.trans e2).trans e3) hf, by rw [upd_ne hlf]; exact e3 l _ (e2 l _ hl2), upd_same, ?_⟩
        rw [cabUp_succ]
        exact prs_X hf3 ExX.upd (by rw [List.map_append]; exact DpAll.snoc (DpAll.ex (e2.trans e3) hd) hv)
      refine s_if (b := decide (i = 0)) (et_is (et_test (ev_op (ev_var rfl) ev_c (rv_eq rfl))) ((nat_beq_v (n := i + 1) (m := 1)).trans (by by_cases h : i = 0 <;> simp [h]))) (fun hz H3 e3 => ?_) (fun hz H3 e3 => ?_)
      · have hz' : i = 0 := of_decide_eq_true hz
        subst hz'
        have t0 : 0 < sS ns 1 := ok.s0 1 (by omega)
        have t1 : sS ns 1 < 2 ^ 30 := ok.s1 1 (by omega)
        refine s_appP (P := fun v H4 => Dp K H4 v (prD (pF ns 1, aF ns 1))) (e3 f _ (e2 f _ hf2)) (ev_var rfl) (ep_pair (ev_var rfl) (v2 := .int (aF ns 1)) (ev_op (rwi (i := 1) ((e.trans e2).trans e3) hi' (ev_var rfl) ev_c) (shi (i := 1) (e2.trans e3) hi' (ev_var rfl) ev_c) (rv_I ⟨by omega, by omega⟩)) (.int _) (.int _)) (by rw [hxl]; decide) fun v H4 e4 hv => fin v H4 (e3.trans e4) hv
      · have hz' : i ≠ 0 := of_decide_eq_false hz
        obtain ⟨m, rfl⟩ : ∃ m, i = m + 1 := ⟨i - 1, by omega⟩
        have hb1 := ok.a (m + 1) (by omega)
        have hb2 := ok.p (m + 1) (by omega)
        have hb3 := ok.p (m + 1 + 1) (by omega)
        have ef : Ex H' H3 := e2.trans e3
        have lastI : ∃ c, xs[xs.length - 1]? = some (.ref c) ∧ SqT K H' c [.int (pF ns (m + 1)), .int (aF ns (m + 1))] := by
          obtain ⟨c, h1, h2⟩ := cab_at' hd (k := m) (by rw [cabUp_len]; omega)
          have eg : (cabUp ns (m + 1)).getD m (0, 0) = (pF ns (m + 1), aF ns (m + 1)) := by
            rw [cabUp_succ, List.getD_eq_getElem?_getD, List.getElem?_append_right (by rw [cabUp_len]; exact Nat.le_refl _), cabUp_len]
            simp
          rw [eg] at h2
          exact ⟨c, by rw [hxl]; exact h1, h2⟩
        obtain ⟨c, hc1, hc2⟩ := lastI
        have fl : ∀ {σ : L2.St}, σ[2]? = some (some (.ref f)) → Ev (tOp (rIxA K) (tVar 2) (tUn (rU fun i => .int (-i)) (tC (.int 1)))) σ H3 (.ref c) := fun {σ} hσ => ev_ixA (ev_var hσ) (ev_un ev_c ru_neg) (SqB.l (sq_of (ef f _ hf2))) (atI_m1 hc1)
        have sq' : SqT K H3 c [.int (pF ns (m + 1)), .int (aF ns (m + 1))] := ex_t ef hc2
        refine s_appP (P := fun v H4 => Dp K H4 v (prD (pF ns (m + 1 + 1), aF ns (m + 1 + 1)))) (ef f _ hf2) (ev_var rfl) (ep_pair (ev_var rfl) (v2 := .int (aF ns (m + 1 + 1))) (ev_op (x := .int (aF ns (m + 1) * pF ns (m + 1) * pF ns (m + 1 + 1))) (y := .int ((sN ns (m + 1 + 1) - sN ns (m + 1)).fdiv (sS ns (m + 1 + 1))))
          (ev_op (ev_op (ev_ixA (b := true) (i := 1) (fl rfl) ev_c sq' (atI_n (i := 1) rfl)) (ev_ixA (b := true) (i := 0) (fl rfl) ev_c sq' (atI_n (i := 0) rfl)) (rv_I (cmul (.inl hb1)))) (ev_var rfl) (rv_I (cmul (.inr hb3))))
          (ev_op (ev_op (rwi (i := m + 1 + 1) (e.trans ef) hi' (ev_var rfl) (ev_var rfl)) (rwi (i := m + 1) (e.trans ef) (by omega) (ev_var rfl) (prev (i := m + 1 + 1) (by omega) (ev_var rfl))) rv_I0) (shi (i := m + 1 + 1) ef hi' (ev_var rfl) (ev_var rfl)) (rv_I ⟨by omega, by omega⟩)) rv_I0) (.int _) (.int _)) (by rw [hxl]; omega) fun v H4 e4 hv => fin v H4 (e3.trans e4) hv
    · subst es
      have en : ((ns.length : Int) - 1).toNat = ns.length - 1 := by omega
      rw [en] at hd
      exact s_ret (ev_var rfl) fun H2 e2 => hQ _ H2 (e.trans e2) (Dp.seq (b := false) (sq_of (e2 f _ hf2)) (DpAll.ex e2 hd))
/-! cable_row -/
theorem sp_need_ok {H : Hp} {x : V} {b : Bool} {ns : List Int} (hd : Dp K H x (seqD b (ns.map PyData.int))) (hl : ns.length ≤ 40000) (hb : chBreach ns = none) : SpP (sp_need_character K) [x] H (fun v H' => Dp K H' v (.tuple (ns.map PyData.int))) := fun H1 e Q q E =>
  ⟨x, _, rfl, Dp.ex e hd, by rw [items_seq, List.length_map]; exact hl, fun hn => absurd (hn.symm.trans isInts_seq) Bool.false_ne_true, fun b' ns' e' => by
    have e2 : ns' = ns := by
      have h1 := congrArg itemsD e'
      rw [items_seq, items_seq] at h1
      have h2 := congrArg (List.map (fun d => match d with | PyData.int i => i | _ => 0)) h1
      rw [List.map_map, List.map_map] at h2
      have h3 : ((fun d => match d with | PyData.int i => i | _ => 0) ∘ PyData.int) = (id : Int → Int) := rfl
      rw [h3, List.map_id, List.map_id] at h2
      exact h2.symm
    subst e2
    exact ⟨fun _ v H' e3 hv => q v H' e3 hv, fun p hp => by rw [hb] at hp; cases hp⟩⟩
theorem tup_ints_inv {H : Hp} {v : V} {ns : List Int} (h : Dp K H v (.tuple (ns.map PyData.int))) : ∃ a, v = .ref a ∧ SqT K H a (ns.map V.int) := by
  obtain ⟨a, xs, rfl, sq, hx⟩ := Dp.seq_inv (b := true) h
  have := DpAll.ints_inv hx
  subst this
  exact ⟨a, rfl, sq⟩
def sp_cable_row (K : PySem.W.Frag) : Sp := fun vs H Q E => ∃ x d, vs = [x] ∧ Dp K H x d ∧ (itemsD d).length ≤ 40000 ∧ ((isInts d = false ∧ Err K "BadRow" "value" E H (fun v _ => v = x)) ∨
  (∃ (b : Bool) (ns : List Int) (p : Str × Int), d = seqD b (ns.map PyData.int) ∧ chBreach ns = some p ∧ Err K "BadCharacters" "answer" E H (fun v H' => ChA K v H' (some p))) ∨
  (∃ (b : Bool) (ns : List Int), d = seqD b (ns.map PyData.int) ∧ okRow ns = true ∧ ∀ v H', Ex H H' → Dp K H' v (cabD true (cabOf ns)) → Q v H'))
theorem ints_inj {b b' : Bool} {ns ns' : List Int} (e' : seqD b (ns.map PyData.int) = seqD b' (ns'.map PyData.int)) : ns' = ns := by
  have h1 := congrArg itemsD e'
  rw [items_seq, items_seq] at h1
  have h2 := congrArg (List.map (fun d => match d with | PyData.int i => i | _ => 0)) h1
  rw [List.map_map, List.map_map] at h2
  have h3 : ((fun d => match d with | PyData.int i => i | _ => 0) ∘ PyData.int) = (id : Int → Int) := rfl
  rw [h3, List.map_id, List.map_id] at h2
  exact h2.symm
theorem ok_cable_row (T : Wk h0 K mg base) : ClC (L2.CX PP w) PP w K mg base 8 "cable_row" ["row"] (sp_cable_row K) := by
  obtain ⟨fd, F⟩ := f_cable_row T
  refine ⟨_, fd, g_cable_row T, F.kp, F.bindsN (fun _ _ _ _ _ _ us hl => match us, hl with | [_], _ => rfl), F.ok sc_cable_row (fun vs H Q E h => ?_) (fun cdv A outer s H vs Q E hr h => ⟨_, (pss_one (ps_ret (pe_callTy call_tuple_of (by rfl) (m_tuple T) (by decide +kernel) (pa_cons (pe_cl (ok_cable_of T) hr (by decide) (by rfl) (pa_cons (pe_clX (ok_need_character T) hr (by decide) (passes_call (takes_of rfl rfl rfl rfl) (fun _ _ _ _ h => h)) (by rfl) (pa_cons (pv 0) pa_nil)) pa_nil)) pa_nil)))), ?_⟩)⟩
  · obtain ⟨x, d, rfl, _⟩ := h; rfl
  · obtain ⟨x, d, rfl, hd, hl, hc⟩ := h
    rcases hc with ⟨hn, hE⟩ | ⟨b, ns, p, rfl, hp, hE⟩ | ⟨b, ns, rfl, hok, hQ⟩
    · exact ⟨x, rfl, x, d, rfl, hd, hl, fun _ => hE, fun b ns e => by subst e; rw [isInts_seq] at hn; cases hn⟩
    · refine ⟨x, rfl, x, _, rfl, hd, hl, fun hn => absurd (hn.symm.trans isInts_seq) Bool.false_ne_true, fun b' ns' e => ?_⟩
      have := ints_inj e
      subst this
      refine ⟨(fun h => nomatch hp.symm.trans h), fun p' hp' => ?_⟩
      rw [hp] at hp'
      cases hp'
      exact hE
    · have ok := okRow_iff hok
      have hl5 := ok.len
      refine s_retP (P := fun v H' => Dp K H' v (cabD true (cabOf ns))) ((ep_tupleOf (b := false) (R := fun xs H1 => DpAll K H1 xs ((cabOf ns).map prD)) ((ep_callP (P := fun v H' => Dp K H' v (cabD false (cabOf ns))) (eap1 (ep_call (ea1 (ev_var rfl)) (sp_need_ok hd (by omega) ok.br))) fun vs H1 e1 ⟨v, hv, hdv⟩ => ?_).imp fun v H1 _ hv => ?_) (fun _ _ _ e z => DpAll.ex e z)).imp fun v H1 _ ⟨q, xs, ev, hs, hx⟩ => ?_) hQ
      · obtain ⟨a, rfl, sq⟩ := tup_ints_inv hdv
        subst hv
        exact fun H2 e2 Q q E => ⟨a, ns, rfl, ex_t e2 sq, hok, q⟩
      · obtain ⟨a, xs, rfl, sq, hx⟩ := Dp.seq_inv hv
        exact ⟨a, xs, rfl, sq, hx⟩
      · subst ev
        exact Dp.tup hs hx
/-! generators -/
def sp_generators_of (K : PySem.W.Frag) : Sp := fun vs H Q _ => ∃ (a : Addr) (ns : List Int), vs = [.ref a] ∧ SqT K H a (ns.map V.int) ∧ okRow ns = true ∧ ∀ v H', Ex H H' → Dp K H' v (seqD false ((genOf ns).map PyData.int)) → Q v H'
theorem ep_slA {σ : L2.St} {H : Hp} {te : TE} {a : Addr} {xs : List V} {lo hi : Option Int} {tl th : TO} (h : Ev te σ H (.ref a)) (h1 : EvO tl σ H lo) (h2 : EvO th σ H hi) (hs : SqT K H a xs) : EvP (tSl (rSlA K) te tl th) σ H (fun v H1 => ∃ p, v = .ref p ∧ SqT K H1 p (cutV xs lo hi)) := fun H1 e Q q =>
  h H1 e _ fun H2 e2 => h1 H2 (e.trans e2) _ fun H3 e3 => h2 H3 ((e.trans e2).trans e3) _ fun H4 e4 => by
    have E4 := ((e.trans e2).trans e3).trans e4
    refine ⟨a, xs, rfl, ex_t E4 hs, fun hw => q _ H4 ((e2.trans e3).trans e4) ⟨a, rfl, ?_⟩, fun _ p hp => q _ _ (((e2.trans e3).trans e4).trans (Ex.new hp)) ⟨p, rfl, st_of upd_same⟩⟩
    have e5 : cutV xs lo hi = xs := by
      unfold cutV
      rw [hw.1, hw.2, Nat.sub_zero, List.drop_zero, List.take_length]
    rw [e5]
    exact ex_t E4 hs
theorem el_listP {σ : L2.St} {H : Hp} {te : TE} {xs : List V} (h : EvP te σ H (fun v H1 => ∃ p, v = .ref p ∧ SqT K H1 p xs)) : EvL (tCB (fun xs H Q => ∃ p ys, xs = [.ref p] ∧ (SqL K H p ys ∨ SqT K H p ys) ∧ ∀ l, H l = none → Q (.ref l) (upd H l (.lst ys))) (tCons te tNil)) σ H xs := fun H1 e Q q =>
  h H1 e _ fun v H2 e2 ⟨p, ev, hp⟩ => by
    subst ev
    exact ⟨p, xs, rfl, .inr hp, fun l hl => q l _ (fresh_back e2 hl) (e2.trans (Ex.new hl)) upd_same⟩
theorem take2 {ns : List Int} : ns.take 2 = genUp ns (min 2 ns.length) := by
  match ns with
  | [] => rfl
  | [n] => rfl
  | n :: m :: r =>
    have e : min 2 (n :: m :: r).length = 2 := by simp
    rw [e]
    rfl
theorem cut2 {ns : List Int} : cutV (ns.map V.int) none (some 2) = (genUp ns (min 2 ns.length)).map V.int := by
  rw [← take2, List.map_take]
  unfold cutV
  have e2 : HT.sIx (ns.map V.int).length (ns.map V.int).length (some 2) = min 2 (ns.map V.int).length := HT.sIx_nat _ _ 2
  rw [HT.sIx_none, e2, List.drop_zero, Nat.sub_zero]
  by_cases h : 2 ≤ (ns.map V.int).length
  · rw [Nat.min_eq_left h]
  · rw [Nat.min_eq_right (by omega), List.take_of_length_le (Nat.le_refl _), List.take_of_length_le (by omega)]
theorem ok_generators_of (T : Wk h0 K mg base) : ClC CX0 PP w K mg base 2 "generators_of" ["row"] (sp_generators_of K) := by
  obtain ⟨fd, F⟩ := f_generators_of T
  refine ⟨_, fd, g_generators_of T, F.kp, F.bindsN (fun _ _ _ _ _ _ us hl => match us, hl with | [_], _ => rfl), F.ok sc_generators_of (fun vs H Q E h => ?_) (fun cdv A outer s H vs Q E hr h => ⟨_, PSs.nox (pss_cons (ps_par (i := 1) (j := 2) (by rfl) sc_generators_of.nd rfl rfl (by decide) rfl rfl (pa_cons (pe_cl (ok_shares_of T) hr (by decide) (by rfl) (pa_cons (pv 0) pa_nil)) (pa_cons (pe_callTy call_list_of (by rfl) (m_list T) (by decide +kernel) (pa_cons (pe_slice sl_tupA (pv 0) po_none (po_some (pe_int))) pa_nil)) pa_nil)) (by rfl)) (pss_cons (ps_for PassesOwn.never rfl (pi_range2 (by rfl) (m_range T) (pa_cons (pe_int) (pa_cons (pe_callB (call_lenK (K := K) rfl) (by rfl) (m_len T) boot_len (pa_cons (pv 0) pa_nil)) pa_nil))) (pg_name (i := 3) sc_generators_of.nd rfl (Or.inl rfl)) (pss_one (ps_expr (pe_bm PySem.F.plainAttrs_list PySem.F.slot_list_append PySem.F.type_list_append mt_append (pv 2) (pa_cons (pe_op op_sub (pe_op op_add (pe_op op_mul (pe_ix (ix_seqK (K := K) rfl) (pv 2) (pe_un un_neg (pe_int)) (fun _ _ => rfl)) (pe_op op_fdivN (pe_ix (ix_seqK (K := K) rfl) (pv 1) (pe_op op_sub (pv 3) (pe_int)) (fun _ _ => rfl)) (pe_ix (ix_seqK (K := K) rfl) (pv 1) (pe_op op_sub (pv 3) (pe_int)) (fun _ _ => rfl)))) (pe_ix (ix_seqK (K := K) rfl) (pv 0) (pv 3) (fun _ _ => rfl))) (pe_ix (ix_seqK (K := K) rfl) (pv 0) (pe_op op_sub (pv 3) (pe_int)) (fun _ _ => rfl))) pa_nil))))) (pss_one (ps_ret (pv 2))))), ?_⟩)⟩
  · obtain ⟨a, ns, rfl, _⟩ := h; rfl
  · obtain ⟨a, ns, rfl, sq, hok, hQ⟩ := h
    have ok := okRow_iff hok
    have hl5 := ok.len
    refine q_parLL (el_shares (b := true) (ev_var rfl) sq (by omega)) (el_listP (ep_slA (ev_var rfl) eo_none (eo_some ev_c) sq)) fun l f H1 hl hf e1 hl1 hf1 => ?_
    rw [cut2] at hf1
    have slen : (shares ns).length = ns.length := shGo_len ns 0
    refine q_forR2 (lo := 2) (n := (ns.length : Int)) (ea2 ev_c (ev_is (ev_lenA (b := true) (ev_var rfl) (ex_t e1 sq)) (by rw [List.length_map]))) ⟨by decide, by decide, by omega, by omega⟩
      (fun i σ' H' => ∃ (x3 : Option V), σ' = [some (.ref a), some (.ref l), some (.ref f), x3] ∧ Ex H H' ∧ H' l = some (.lst ((shares ns).map V.int)) ∧ H' f = some (.lst ((genUp ns (min 2 ns.length + i)).map V.int)))
      (fun H2 e2 => ⟨none, rfl, e1.trans e2, e2 l _ hl1, e2 f _ hf1⟩) (fun i σ' H' hi ⟨x3, es, e, hl2, hf2⟩ => ?_) (fun σ' H' ⟨x3, es, e, hl2, hf2⟩ => ?_)
    · subst es
      have hi' : i + 2 < ns.length := by omega
      have ei : (2 : Int) + (i : Int) = ((i + 2 : Nat) : Int) := by omega
      rw [ei]
      have em : min 2 ns.length + i = i + 2 := by omega
      rw [em] at hf2
      have shi : ∀ {σ : L2.St} {te ti : TE} {H2 : Hp} {i : Nat}, Ex H' H2 → i < ns.length → Ev te σ H2 (.ref l) → Ev ti σ H2 (.int (i : Int)) → Ev (tOp (rIxA K) te ti) σ H2 (.int (sS ns i)) := fun {σ te ti H' i} e hi h h2 => ev_ixA h h2 (SqB.l (sq_of (e l _ hl2))) (atI_int (by omega))
      have rwi : ∀ {σ : L2.St} {te ti : TE} {H2 : Hp} {i : Nat}, Ex H H2 → i < ns.length → Ev te σ H2 (.ref a) → Ev ti σ H2 (.int (i : Int)) → Ev (tOp (rIxA K) te ti) σ H2 (.int (sN ns i)) := fun {σ te ti H' i} e hi h h2 => ev_ixA (b := true) h h2 (ex_t e sq) (atI_int hi)
      have s0 := ok.s0 (i + 1) (by omega)
      have s1 := ok.s1 (i + 1) (by omega)
      have g1 := ok.g (i + 1) (by omega)
      have hlf : l ≠ f := fun z => by
        have h1 := hl1; have h2 := hf1
        rw [z, h2] at h1
        have h3 := congrArg (fun o : Option HO => match o with | some (.lst ys) => ys.length | _ => 0) h1
        simp [genUp_len] at h3
        omega
      refine s_app (v := .int (gF ns (i + 2))) hf2 (ev_var rfl) (ev_op (x := .int (gF ns (i + 1) * (sS ns i).fdiv (sS ns (i + 1)) + sN ns (i + 2))) (y := .int (sN ns (i + 1))) (ev_op (x := .int (gF ns (i + 1) * (sS ns i).fdiv (sS ns (i + 1)))) (y := .int (sN ns (i + 2)))
        (ev_op (x := .int (gF ns (i + 1))) (y := .int ((sS ns i).fdiv (sS ns (i + 1)))) (ev_ixA (ev_var rfl) (ev_un ev_c ru_neg) (SqB.l (sq_of hf2)) (atI_m1 ?_)) (ev_op (shi (i := i) (Ex.refl _) (by omega) (ev_var rfl) (ev_is (ev_op (ev_var rfl) ev_c rv_I0) (by congr 1; omega))) (shi (i := i + 1) (Ex.refl _) (by omega) (ev_var rfl) (ev_is (ev_op (ev_var rfl) ev_c rv_I0) (by congr 1; omega))) (rv_I ⟨by omega, by omega⟩)) (rv_I (cmul (.inl g1))))
        (rwi (i := i + 2) e hi' (ev_var rfl) (ev_var rfl)) rv_I0) (rwi (i := i + 1) e (by omega) (ev_var rfl) (ev_is (ev_op (ev_var rfl) ev_c rv_I0) (by congr 1; omega))) rv_I0) (by rw [List.length_map, genUp_len]; omega) fun H2 e2 => ?_
      · rw [List.length_map, genUp_len, List.getElem?_map]
        unfold genUp
        rw [List.getElem?_map]
        have : (List.range (i + 2))[i + 2 - 1]? = some (i + 1) := by simp
        rw [this]
        rfl
      · refine ⟨_, rfl, Ex.mut (e.trans e2) hf, by rw [upd_ne hlf]; exact e2 l _ hl2, ?_⟩
        have em2 : min 2 ns.length + (i + 1) = i + 2 + 1 := by omega
        have eg := genUp_succ ns (i + 2)
        rw [em2, eg, List.map_append]
        exact upd_same
    · subst es
      have en : min 2 ns.length + ((ns.length : Int) - 2).toNat = ns.length := by have := ok.pos; omega
      rw [en] at hf2
      exact s_ret (ev_var rfl) fun H2 e2 => hQ _ H2 (e.trans e2) (Dp.seq (b := false) (sq_of (e2 f _ hf2)) DpAll.ints)
def sp_generators (K : PySem.W.Frag) : Sp := fun vs H Q E => ∃ (x : V) (b : Bool) (ns : List Int), vs = [x] ∧ Dp K H x (seqD b (ns.map PyData.int)) ∧ okRow ns = true ∧ ∀ v H', Ex H H' → Dp K H' v (.tuple ((genOf ns).map PyData.int)) → Q v H'
theorem ok_generators (T : Wk h0 K mg base) : ClC (L2.CX PP w) PP w K mg base 8 "generators" ["row"] (sp_generators K) := by
  obtain ⟨fd, F⟩ := f_generators T
  refine ⟨_, fd, g_generators T, F.kp, F.bindsN (fun _ _ _ _ _ _ us hl => match us, hl with | [_], _ => rfl), F.ok sc_generators (fun vs H Q E h => ?_) (fun cdv A outer s H vs Q E hr h => ⟨_, (pss_one (ps_ret (pe_callTy call_tuple_of (by rfl) (m_tuple T) (by decide +kernel) (pa_cons (pe_cl (ok_generators_of T) hr (by decide) (by rfl) (pa_cons (pe_clX (ok_need_character T) hr (by decide) (passes_call (takes_of rfl rfl rfl rfl) (fun _ _ _ _ h => h)) (by rfl) (pa_cons (pv 0) pa_nil)) pa_nil)) pa_nil)))), ?_⟩)⟩
  · obtain ⟨x, b, ns, rfl, _⟩ := h; rfl
  · obtain ⟨x, b, ns, rfl, hd, hok, hQ⟩ := h
    have ok := okRow_iff hok
    have hl5 := ok.len
    refine s_retP (P := fun v H' => Dp K H' v (.tuple ((genOf ns).map PyData.int))) ((ep_tupleOf (b := false) (R := fun xs H1 => DpAll K H1 xs ((genOf ns).map PyData.int)) ((ep_callP (P := fun v H' => Dp K H' v (seqD false ((genOf ns).map PyData.int))) (eap1 (ep_call (ea1 (ev_var rfl)) (sp_need_ok hd (by omega) ok.br))) fun vs H1 e1 ⟨v, hv, hdv⟩ => ?_).imp fun v H1 _ hv => ?_) (fun _ _ _ e z => DpAll.ex e z)).imp fun v H1 _ ⟨q, xs, ev, hs, hx⟩ => ?_) hQ
    · obtain ⟨a, rfl, sq⟩ := tup_ints_inv hdv
      subst hv
      exact fun H2 e2 Q q E => ⟨a, ns, rfl, ex_t e2 sq, hok, q⟩
    · obtain ⟨a, xs, rfl, sq, hx⟩ := Dp.seq_inv hv
      exact ⟨a, xs, rfl, sq, hx⟩
    · subst ev
      exact Dp.tup hs hx
end
end K41
set_option maxHeartbeats 0
/-! The walks: the pen. -/
namespace K41
open PySem PySem.Spec PyProof.Rows L2 He TC Evl
/-! the pen -/
def pk (l : Addr) (at_ d c f : Int) : List (Key × V) := [(.inr "cells", .ref l), (.inr "at", .int at_), (.inr "digits", .int d), (.inr "count", .int c), (.inr "fold", .int f)]
theorem put_at {l : Addr} {a d c f v : Int} : putK (pk l a d c f) (.inr "at") (.int v) = pk l v d c f := rfl
theorem put_digits {l : Addr} {a d c f v : Int} : putK (pk l a d c f) (.inr "digits") (.int v) = pk l a v c f := rfl
theorem put_count {l : Addr} {a d c f v : Int} : putK (pk l a d c f) (.inr "count") (.int v) = pk l a d v f := rfl
theorem put_fold {l : Addr} {a d c f v : Int} : putK (pk l a d c f) (.inr "fold") (.int v) = pk l a d c v := rfl
structure PenAt (H : Hp) (p l : Addr) (ns : List Int) (at_ d c f : Int) (n : Nat) : Prop where
  dk : H p = some (.dK (pk l at_ d c f))
  cl : H l = some (.lst (ns.map V.int))
  ha : 0 ≤ at_
  hd : 0 ≤ d
  hc : 0 ≤ c ∧ c ≤ n
  hf : 0 ≤ f ∧ f < 2147483587
def Pen (l : Addr) (n : Nat) (H : Hp) (p : Addr) : Prop := ∃ ns at_ d c f, PenAt H p l ns at_ d c f n
theorem Pen.mono {l : Addr} {n m : Nat} {H : Hp} {p : Addr} (h : Pen l n H p) (k : n ≤ m) : Pen l m H p := by
  obtain ⟨ns, at_, d, c, f, h⟩ := h
  exact ⟨ns, at_, d, c, f, h.dk, h.cl, h.ha, h.hd, ⟨h.hc.1, by have := h.hc.2; omega⟩, h.hf⟩
theorem Pen.ex {l : Addr} {n : Nat} {H H' : Hp} {p : Addr} (e : Ex H H') (h : Pen l n H p) : Pen l n H' p := by
  obtain ⟨ns, at_, d, c, f, h⟩ := h
  exact ⟨ns, at_, d, c, f, e _ _ h.dk, e _ _ h.cl, h.ha, h.hd, h.hc, h.hf⟩
theorem Pen.isD {l : Addr} {n : Nat} {H : Hp} {p : Addr} (h : Pen l n H p) : ∃ kvs, H p = some (.dK kvs) := by
  obtain ⟨ns, at_, d, c, f, h⟩ := h
  exact ⟨_, h.dk⟩
theorem PenAt.nlp {H : Hp} {p l : Addr} {ns : List Int} {at_ d c f : Int} {n : Nat} (h : PenAt H p l ns at_ d c f n) : l ≠ p := fun z => by
  have h1 := h.cl
  rw [z, h.dk] at h1
  cases h1
section
variable {w : World} {h0 base : Heap} {K : PySem.W.Frag} {mg : Str → Option Value}
def sp_law_pen (K : PySem.W.Frag) : Sp := fun vs H Q _ => ∃ (a : Addr) (ns : List Int), vs = [.ref a] ∧ SqL K H a (ns.map V.int) ∧ ∀ p l H', Ex H H' → H p = none → Pen l 0 H' p → Q (.ref p) H'
theorem ok_law_pen (T : Wk h0 K mg base) : ClC CX0 PP w K mg base 1 "_law_pen" ["script"] (sp_law_pen K) := by
  obtain ⟨fd, F⟩ := f_law_pen T
  refine ⟨_, fd, g_law_pen T, F.kp, F.bindsN (fun _ _ _ _ _ _ us hl => match us, hl with | [_], _ => rfl), F.ok sc_law_pen (fun vs H Q E h => ?_) (fun cdv A outer s H vs Q E hr h => ⟨_, PSs.nox (pss_cons (ps_set (i := 1) sc_law_pen.nd rfl (Or.inl rfl) (pe_int)) (pss_cons (ps_for PassesOwn.never rfl (pi_any (pv 0)) (pg_name (i := 2) sc_law_pen.nd rfl (Or.inl rfl)) (pss_one (ps_set (i := 1) sc_law_pen.nd rfl (Or.inl rfl) (pe_op op_mod (pe_callTy call_int1 (by rfl) (m_int T) (by decide +kernel) (pa_cons (pe_op op_add (pe_op op_mul (pv 1) (pe_int)) (pv 2)) pa_nil)) (pe_int))))) (pss_one (ps_ret (pe_disp (pps_cons (pe_str) (pe_callTy call_list_of (by rfl) (m_list T) (by decide +kernel) (pa_cons (pv 0) pa_nil)) (pps_cons (pe_str) (pe_int) (pps_cons (pe_str) (pe_int) (pps_cons (pe_str) (pe_int) (pps_cons (pe_str) (pv 1) pps_nil))))) (by rfl) (by rfl) (fun z => by cases z) (by decide)))))), ?_⟩)⟩
  · obtain ⟨a, ns, rfl, _⟩ := h; rfl
  · obtain ⟨a, ns, rfl, sq, hQ⟩ := h
    refine q_asg (v := .int 0) ev_c fun H1 e1 => ?_
    refine q_forA (b := false) (a := a) (xs := ns.map V.int) (ev_var rfl) (ex_l e1 sq) (fun i σ' H' => ∃ (f : Int) (x : Option V), σ' = [some (.ref a), some (.int f), x] ∧ Ex H H' ∧ 0 ≤ f ∧ f < 1000000007)
      (fun H2 e2 => ⟨0, none, rfl, e1.trans e2, by decide, by decide⟩) (fun i σ' H' _ ⟨_, _, _, e, _⟩ => ex_l e sq) (fun i x σ' H' hx ⟨f, y, es, e, h1, h2⟩ => ?_) (fun σ' H' ⟨f, y, es, e, h1, h2⟩ => ?_)
    · subst es
      rw [List.getElem?_map] at hx
      cases hn : ns[i]? with
      | none => rw [hn] at hx; cases hx
      | some n =>
        rw [hn] at hx
        cases hx
        refine s_asg (v := .int ((f * 47 + n) % 1000000007)) (ev_op (ev_int1 (ev_op (ev_op (ev_var rfl) ev_c (rv_I (cmul (.inl ⟨by omega, by omega⟩)))) (ev_var rfl) rv_I0)) ev_c (rv_I (by decide))) fun H2 e2 => ?_
        exact ⟨_, _, rfl, e.trans e2, Int.emod_nonneg _ (by decide), Int.emod_lt_of_pos _ (by decide)⟩
    · subst es
      intro p hp
      have hx : EvL (tCB (fun xs H Q => ∃ p ys, xs = [.ref p] ∧ (SqL K H p ys ∨ SqT K H p ys) ∧ ∀ l, H l = none → Q (.ref l) (upd H l (.lst ys))) (tCons (tVar 0) tNil)) [some (.ref a), some (.int f), y] (upd H' p (.dK [])) (ns.map V.int) := el_listOf (b := false) (ev_var rfl) (ex_l (e.trans (Ex.new hp)) sq)
      simp only [tPairs, tC]
      refine hx _ (Ex.refl _) _ fun l H2 hl e2 hl2 => ?_
      refine ⟨_, rfl, e2 p _ upd_same, [(.inr "cells", .ref l), (.inr "at", .int 0), (.inr "digits", .int 0), (.inr "count", .int 0), (.inr "fold", .int f)], rfl, (by show (5 : Nat) ≤ 15; decide), ?_⟩
      have np : l ≠ p := fun z => by rw [z, upd_same] at hl; cases hl
      refine hQ p l _ (Ex.mut (e.trans ((Ex.new hp).trans e2)) (fresh_back e hp)) (fresh_back e hp) ⟨ns, 0, 0, 0, f, ?_, by rw [upd_ne np]; exact hl2, by decide, by decide, ⟨by decide, by decide⟩, ⟨h1, by omega⟩⟩
      rw [upd_same]
      rfl
def sp_law_draw : Sp := fun vs H Q _ => ∃ (p l : Addr) (m : Int) (n : Nat), vs = [.ref p, .int m] ∧ 0 < m ∧ m < 2 ^ 20 ∧ Pen l n H p ∧ n ≤ 100000 ∧ ∀ k H', 0 ≤ k → k < m → ExX p H H' → Pen l (n + 1) H' p → Q (.int k) H'
theorem ok_law_draw (T : Wk h0 K mg base) : ClC CX0 PP w K mg base 1 "_law_draw" ["pen", "many"] sp_law_draw := by
  obtain ⟨fd, F⟩ := f_law_draw T
  refine ⟨_, fd, g_law_draw T, F.kp, F.bindsN (fun _ _ _ _ _ _ us hl => match us, hl with | [_, _], _ => rfl), F.ok sc_law_draw (fun vs H Q E h => ?_) (fun cdv A outer s H vs Q E hr h => ⟨_, PSs.nox (pss_cons (ps_dput (hu_of hr) (pv 0) (pe_str) (pe_op op_add (pe_dget (hu_of hr) (pv 0) (pe_str) (fun _ _ => rfl)) (pe_int)) rfl) (pss_cut (ps_if (PW.pt (pw_and (pt_cmpR (op_eq) (pe_dget (hu_of hr) (pv 0) (pe_str) (fun _ _ => rfl)) (pe_int) (nomark _)) (pw_and1 (pt_cmpR (op_lt) (pe_dget (hu_of hr) (pv 0) (pe_str) (fun _ _ => rfl)) (pe_callB (call_lenK (K := K) rfl) (by rfl) (m_len T) boot_len (pa_cons (pe_dget (hu_of hr) (pv 0) (pe_str) (fun _ _ => rfl)) pa_nil)) (nomark _))))) (pss_cons (ps_set (i := 2) sc_law_draw.nd rfl (Or.inl rfl) (pe_ix (ix_seqK (K := K) rfl) (pe_dget (hu_of hr) (pv 0) (pe_str) (fun _ _ => rfl)) (pe_dget (hu_of hr) (pv 0) (pe_str) (fun _ _ => rfl)) (fun _ _ => rfl))) (pss_cons (ps_dput (hu_of hr) (pv 0) (pe_str) (pe_op op_add (pe_dget (hu_of hr) (pv 0) (pe_str) (fun _ _ => rfl)) (pe_int)) rfl) (pss_one (ps_if (pt_cmpR (op_ge) (pv 2) (pe_op op_pow (pe_int) (pe_int)) (nomark _)) (pss_one (ps_dput (hu_of hr) (pv 0) (pe_str) (pe_op op_sub (pv 2) (pe_op op_pow (pe_int) (pe_int))) rfl)) (pss_one (ps_dput (hu_of hr) (pv 0) (pe_str) (pe_op op_mod (pe_callTy call_int1 (by rfl) (m_int T) (by decide +kernel) (pa_cons (pe_op op_add (pe_op op_mul (pe_dget (hu_of hr) (pv 0) (pe_str) (fun _ _ => rfl)) (pe_int)) (pv 2)) pa_nil)) (pe_int)) rfl)))))) pss_nil) (pss_cons (ps_if (pt_cmpR (op_gt) (pe_dget (hu_of hr) (pv 0) (pe_str) (fun _ _ => rfl)) (pe_int) (nomark _)) (pss_cons (ps_set (i := 3) sc_law_draw.nd rfl (Or.inl rfl) (pe_op op_mod (pe_callTy call_int1 (by rfl) (m_int T) (by decide +kernel) (pa_cons (pe_dget (hu_of hr) (pv 0) (pe_str) (fun _ _ => rfl)) pa_nil)) (pv 1))) (pss_cons (ps_dput (hu_of hr) (pv 0) (pe_str) (pe_op op_fdiv (pe_dget (hu_of hr) (pv 0) (pe_str) (fun _ _ => rfl)) (pv 1)) rfl) (pss_one (ps_ret (pv 3))))) pss_nil) (pss_cons (ps_set (i := 4) sc_law_draw.nd rfl (Or.inl rfl) (pe_op op_add (pe_op op_add (pe_dget (hu_of hr) (pv 0) (pe_str) (fun _ _ => rfl)) (pe_op op_mul (pe_dget (hu_of hr) (pv 0) (pe_str) (fun _ _ => rfl)) (pe_int))) (pe_int))) (pss_one (ps_ret (pe_op op_mod (pe_op op_fdiv (pe_callTy call_int1 (by rfl) (m_int T) (by decide +kernel) (pa_cons (pe_op op_mod (pe_op op_pow (pv 4) (pe_int)) (pe_int)) pa_nil)) (pe_int)) (pv 1)))))))), ?_⟩)⟩
  · obtain ⟨p, l, m, n, rfl, _⟩ := h; rfl
  · obtain ⟨p, l, m, n, rfl, hm0, hm1, ⟨ns, at_, d, c, f, hp⟩, hn, hQ⟩ := h
    have hn' : (n : Int) ≤ 100000 := by omega
    have hc := hp.hc
    have hf := hp.hf
    refine q_dput (v := .int (c + 1)) (ev_op (ev_dget (ev_var rfl) ev_c hp.dk rfl) ev_c rv_I0) (ev_var rfl) ev_c hp.dk (by show (5 : Nat) < 1000; decide) fun H1 e1 => ?_
    have P1 : PenAt (upd H1 p (.dK (pk l at_ d (c + 1) f))) p l ns at_ d (c + 1) f (n + 1) := ⟨upd_same, by rw [upd_ne hp.nlp]; exact e1 _ _ hp.cl, hp.ha, hp.hd, ⟨by omega, by omega⟩, hf⟩
    have X1 : ExX p H (upd H1 p (.dK (pk l at_ d (c + 1) f))) := (ExX.of e1).trans ExX.upd
    rw [put_count]
    generalize upd H1 p (.dK (pk l at_ d (c + 1) f)) = G1 at P1 X1
    refine q_cut (M := fun σ' H' => ∃ (x2 x3 x4 : Option V) (a' d' f' : Int), σ' = [some (.ref p), some (.int m), x2, x3, x4] ∧ ExX p H H' ∧ PenAt H' p l ns a' d' (c + 1) f' (n + 1)) ?_ fun σ' H' ⟨x2, x3, x4, a', d', f', es, X2, P2⟩ => ?_
    · refine s_if (b := decide (V.int d = V.int 0) && decide (at_ < (ns.length : Int))) (et_and (et_test (ev_op (ev_dget (ev_var rfl) ev_c P1.dk rfl) ev_c (rv_eq rfl))) (fun _ => et_test (ev_op (ev_dget (ev_var rfl) ev_c P1.dk rfl) (ev_is (ev_lenA (b := false) (ev_dget (ev_var rfl) ev_c P1.dk rfl) (sq_of P1.cl)) (by rw [List.length_map])) rv_I0))) (fun hb H2 e2 => ?_) (fun hb H2 e2 => ?_)
      · obtain ⟨hb1, hb2⟩ := ba hb
        have hat := of_decide_eq_true hb2
        have hz : d = 0 := by have := of_decide_eq_true hb1; injection this
        obtain ⟨k, rfl⟩ : ∃ k : Nat, at_ = (k : Int) := ⟨at_.toNat, by have := P1.ha; omega⟩
        have hk : k < ns.length := by omega
        refine q_asg (v := .int (ns.getD k 0)) (ev_ixA (b := false) (i := (k : Int)) (ev_dget (ev_var rfl) ev_c (e2 _ _ P1.dk) rfl) (ev_dget (ev_var rfl) ev_c (e2 _ _ P1.dk) rfl) (sq_of (e2 _ _ P1.cl)) (atI_int hk)) fun H3 e3 => ?_
        have e23 := e2.trans e3
        refine q_dput (v := .int ((k : Int) + 1)) (ev_op (ev_dget (ev_var rfl) ev_c (e23 _ _ P1.dk) rfl) ev_c rv_I0) (ev_var rfl) ev_c (e23 _ _ P1.dk) (by show (5 : Nat) < 1000; decide) fun H4 e4 => ?_
        have P3 : PenAt (upd H4 p (.dK (pk l ((k : Int) + 1) d (c + 1) f))) p l ns ((k : Int) + 1) d (c + 1) f (n + 1) := ⟨upd_same, by rw [upd_ne P1.nlp]; exact (e23.trans e4) _ _ P1.cl, by omega, P1.hd, P1.hc, P1.hf⟩
        have X3 : ExX p H (upd H4 p (.dK (pk l ((k : Int) + 1) d (c + 1) f))) := (X1.trans (ExX.of (e23.trans e4))).trans ExX.upd
        rw [put_at]
        generalize upd H4 p (.dK (pk l ((k : Int) + 1) d (c + 1) f)) = G3 at P3 X3
        refine s_if (b := decide ((10 : Int) ^ 18 ≤ ns.getD k 0)) (et_test (ev_op (ev_var rfl) (y := .int ((10 : Int) ^ 18)) (ev_op ev_c ev_c (rv_I ⟨by decide, by decide, by decide⟩)) rv_I0)) (fun hb H5 e5 => ?_) (fun hb H5 e5 => ?_)
        · refine s_dput (v := .int (ns.getD k 0 - (10 : Int) ^ 18)) (ev_op (ev_var rfl) (y := .int ((10 : Int) ^ 18)) (ev_op ev_c ev_c (rv_I ⟨by decide, by decide, by decide⟩)) rv_I0) (ev_var rfl) ev_c (e5 _ _ P3.dk) (by show (5 : Nat) < 1000; decide) fun H6 e6 => ?_
          have := of_decide_eq_true hb
          exact ⟨_, none, none, (k : Int) + 1, ns.getD k 0 - (10 : Int) ^ 18, f, rfl, (X3.trans (ExX.of (e5.trans e6))).trans ExX.upd, upd_same, by rw [upd_ne P1.nlp]; exact (e5.trans e6) _ _ P3.cl, P3.ha, by omega, P3.hc, P3.hf⟩
        · refine s_dput (v := .int ((f * 69069 + ns.getD k 0) % 2147483587)) (ev_op (ev_int1 (ev_op (ev_op (ev_dget (ev_var rfl) ev_c (e5 _ _ P3.dk) rfl) ev_c (rv_I (cmul (.inl ⟨by omega, by omega⟩)))) (ev_var rfl) rv_I0)) ev_c (rv_I (by decide))) (ev_var rfl) ev_c (e5 _ _ P3.dk) (by show (5 : Nat) < 1000; decide) fun H6 e6 => ?_
          exact ⟨_, none, none, (k : Int) + 1, d, _, rfl, (X3.trans (ExX.of (e5.trans e6))).trans ExX.upd, upd_same, by rw [upd_ne P1.nlp]; exact (e5.trans e6) _ _ P3.cl, P3.ha, P3.hd, P3.hc, ⟨Int.emod_nonneg _ (by decide), Int.emod_lt_of_pos _ (by decide)⟩⟩
      · exact ⟨none, none, none, at_, d, f, rfl, X1.trans (ExX.of e2), e2 _ _ P1.dk, e2 _ _ P1.cl, P1.ha, P1.hd, P1.hc, P1.hf⟩
    · subst es
      have hd2 := P2.hd
      have hc2 := P2.hc
      have hf2 := P2.hf
      refine q_when (b := decide (0 < d')) (et_test (ev_op (ev_dget (ev_var rfl) ev_c P2.dk rfl) ev_c rv_I0)) (fun hb H2 e2 => ?_) (fun hb H2 e2 => ?_)
      · refine q_asg (v := .int (d' % m)) (ev_op (ev_int1 (ev_dget (ev_var rfl) ev_c (e2 _ _ P2.dk) rfl)) (ev_var rfl) (rv_I hm0)) fun H3 e3 => ?_
        refine q_dput (v := .int (d' / m)) (ev_op (ev_dget (ev_var rfl) ev_c ((e2.trans e3) _ _ P2.dk) rfl) (ev_var rfl) (rv_I ⟨hm0, by omega⟩)) (ev_var rfl) ev_c ((e2.trans e3) _ _ P2.dk) (by show (5 : Nat) < 1000; decide) fun H4 e4 => ?_
        refine s_ret (v := .int (d' % m)) (ev_var rfl) fun H5 e5 => hQ _ H5 (Int.emod_nonneg _ (by omega)) (Int.emod_lt_of_pos _ hm0) (((X2.trans (ExX.of ((e2.trans e3).trans e4))).trans ExX.upd).trans (ExX.of e5)) ?_
        refine Pen.ex e5 ⟨ns, a', d' / m, c + 1, f', upd_same, by rw [upd_ne P2.nlp]; exact ((e2.trans e3).trans e4) _ _ P2.cl, P2.ha, Int.ediv_nonneg hd2 (by omega), P2.hc, P2.hf⟩
      · have P3 : PenAt H2 p l ns a' d' (c + 1) f' (n + 1) := ⟨e2 _ _ P2.dk, e2 _ _ P2.cl, P2.ha, P2.hd, P2.hc, P2.hf⟩
        refine q_asg (v := .int (f' + (c + 1) * 7907 + 37)) (ev_op (ev_op (ev_dget (ev_var rfl) ev_c P3.dk rfl) (ev_op (ev_dget (ev_var rfl) ev_c P3.dk rfl) ev_c (rv_I (cmul (.inl ⟨by omega, by omega⟩)))) rv_I0) ev_c rv_I0) fun H3 e3 => ?_
        have hb : (f' + (c + 1) * 7907 + 37).natAbs < 2 ^ 64 := by omega
        generalize f' + (c + 1) * 7907 + 37 = mx at hb
        refine s_ret (v := .int (mx ^ 17 % 2305843009213693951 / 128 % m)) (ev_op (ev_op (ev_int1 (ev_op (ev_op (x := .int mx) (y := .int 17) (z := .int (mx ^ 17)) (ev_var rfl) ev_c (rv_I ⟨by decide, by decide, hb⟩)) ev_c (rv_I (by decide)))) ev_c (rv_I ⟨by decide, by decide⟩)) (ev_var rfl) (rv_I hm0)) fun H4 e4 => ?_
        exact hQ _ H4 (Int.emod_nonneg _ (by omega)) (Int.emod_lt_of_pos _ hm0) (X2.trans (ExX.of ((e2.trans e3).trans e4))) (Pen.ex (e3.trans e4) ⟨ns, a', d', c + 1, f', P3⟩)
end
end K41
set_option maxHeartbeats 0
/-! The walks: draws, gcd, shares, rows of the law. -/
namespace K41
open PySem PySem.Spec PyProof.Rows L2 He TC Evl
section
variable {w : World} {h0 base : Heap} {K : PySem.W.Frag} {mg : Str → Option Value}
def sp_law_pick (K : PySem.W.Frag) : Sp := fun vs H Q _ => ∃ (p l : Addr) (n : Nat) (b : Bool) (a : Addr) (xs : List V), vs = [.ref p, .ref a] ∧ Pen l n H p ∧ n ≤ 100000 ∧ SqB K H b a xs ∧ 0 < xs.length ∧ xs.length ≤ 1000 ∧ ∀ (k : Nat) x H', xs[k]? = some x → ExX p H H' → Pen l (n + 1) H' p → Q x H'
theorem ok_law_pick (T : Wk h0 K mg base) : ClC CX0 PP w K mg base 2 "_law_pick" ["pen", "some"] (sp_law_pick K) := by
  obtain ⟨fd, F⟩ := f_law_pick T
  refine ⟨_, fd, g_law_pick T, F.kp, F.bindsN (fun _ _ _ _ _ _ us hl => match us, hl with | [_, _], _ => rfl), F.ok sc_law_pick (fun vs H Q E h => ?_) (fun cdv A outer s H vs Q E hr h => ⟨_, PSs.nox (pss_one (ps_ret (pe_ix (ix_seqK (K := K) rfl) (pv 1) (pe_cl (ok_law_draw T) hr (by decide) (by rfl) (pa_cons (pv 0) (pa_cons (pe_callB (call_lenK (K := K) rfl) (by rfl) (m_len T) boot_len (pa_cons (pv 1) pa_nil)) pa_nil))) (fun _ _ => rfl)))), ?_⟩)⟩
  · obtain ⟨p, l, n, b, a, xs, rfl, _⟩ := h; rfl
  · obtain ⟨p, l, n, b, a, xs, rfl, hp, hn, sq, hl0, hl1, hQ⟩ := h
    refine ⟨_, rfl, _, rfl, (ev_lenA (b := b) (ev_var rfl) sq) H (Ex.refl H) _ fun H1 e1 => ?_⟩
    obtain ⟨kvs, hk⟩ := hp.isD
    refine ⟨p, l, _, n, rfl, by omega, by omega, hp.ex e1, hn, fun k H2 h1 h2 x2 pn => ?_⟩
    obtain ⟨j, rfl⟩ : ∃ j : Nat, k = (j : Int) := ⟨k.toNat, by omega⟩
    have hj : j < xs.length := by omega
    have sq2 : SqB K H2 b a xs := sqB_N (e1 _ _ hk) True.intro x2 (sq.ex e1)
    have hx : xs[j]? = some xs[j] := List.getElem?_eq_getElem hj
    exact (rv_ixA sq2 (atI_n hx)) H2 (Ex.refl _) _ fun H3 e3 => hQ j _ H3 hx (((ExX.of e1).trans x2).trans (ExX.of e3)) (pn.ex e3)
def sp_law_listed (K : PySem.W.Frag) : Sp := fun vs H Q _ => ∃ (p l : Addr) (n : Nat) (b : Bool) (x : V) (ds : List PyData), vs = [.ref p, x] ∧ Pen l n H p ∧ n ≤ 100000 ∧ Dp K H x (seqD b ds) ∧ ∀ v b' H', ExX p H H' → Pen l (n + 1) H' p → Dp K H' v (seqD b' ds) → Q v H'
theorem ok_law_listed (T : Wk h0 K mg base) : ClC CX0 PP w K mg base 2 "_law_listed" ["pen", "row"] (sp_law_listed K) := by
  obtain ⟨fd, F⟩ := f_law_listed T
  refine ⟨_, fd, g_law_listed T, F.kp, F.bindsN (fun _ _ _ _ _ _ us hl => match us, hl with | [_, _], _ => rfl), F.ok sc_law_listed (fun vs H Q E h => ?_) (fun cdv A outer s H vs Q E hr h => ⟨_, PSs.nox (pss_one (ps_ret (pe_ifExp (pt_cmpR (op_eq) (pe_cl (ok_law_draw T) hr (by decide) (by rfl) (pa_cons (pv 0) (pa_cons (pe_int) pa_nil))) (pe_int) (nomark _)) (pe_callTy call_list_of (by rfl) (m_list T) (by decide +kernel) (pa_cons (pv 1) pa_nil)) (pe_callTy call_tuple_of (by rfl) (m_tuple T) (by decide +kernel) (pa_cons (pv 1) pa_nil))))), ?_⟩)⟩
  · obtain ⟨p, l, n, b, x, ds, rfl, _⟩ := h; rfl
  · obtain ⟨p, l, n, b, x, ds, rfl, hp, hn, hd, hQ⟩ := h
    obtain ⟨kvs, hk⟩ := hp.isD
    refine ⟨_, rfl, p, l, 2, n, rfl, by decide, by decide, hp, hn, fun k H2 h1 h2 x2 pn => ?_⟩
    have hd2 : Dp K H2 x (seqD b ds) := Dp.exN hk True.intro x2 hd
    obtain ⟨a, xs, rfl, sq, da⟩ := Dp.seq_inv hd2
    have c : (if decide (V.int k = V.int 0) = true then tCB (fun xs H Q => ∃ p ys, xs = [.ref p] ∧ (SqL K H p ys ∨ SqT K H p ys) ∧ ∀ l, H l = none → Q (.ref l) (upd H l (.lst ys))) (tCons (tVar 1) tNil) else tCB (rTupOf K) (tCons (tVar 1) tNil)) [some (.ref p), some (.ref a)] H2 (fun v H' => Q v H') := by
      by_cases hz : decide (V.int k = V.int 0) = true
      · rw [if_pos hz]
        exact (el_listOf (b := b) (ev_var rfl) sq) H2 (Ex.refl _) _ fun l H3 _ e3 hl => hQ _ false H3 (x2.trans (ExX.of e3)) (pn.ex e3) (Dp.seq (b := false) (sq_of hl) (DpAll.ex e3 da))
      · rw [if_neg hz]
        exact (ep_tupleOf (b := b) (R := fun xs H1 => DpAll K H1 xs ds) ((Ev.p (ev_var rfl)).imp fun v H1 e ev => ⟨a, xs, ev, sq.ex e, DpAll.ex e da⟩) (fun _ _ _ e z => DpAll.ex e z)) H2 (Ex.refl _) _ fun v H3 e3 ⟨q, ys, ev, hs, hx⟩ => by
          subst ev
          exact hQ _ true H3 (x2.trans (ExX.of e3)) (pn.ex e3) (Dp.seq (b := true) hs hx)
    refine ⟨rfl, decide (V.int k = V.int 0), rfl, ?_⟩
    by_cases hz : decide (V.int k = V.int 0) = true
    · rw [if_pos hz] at c ⊢
      exact c
    · rw [if_neg hz] at c ⊢
      exact c
/-! gcd -/
theorem gcd_step {a b : Int} (hb : 0 < b) : Nat.gcd b.natAbs (a % b).natAbs = Nat.gcd a.natAbs b.natAbs := by
  have h1 : Int.gcd b (a % b) = Int.gcd a b := by
    apply Nat.dvd_antisymm
    · have d1 : ((Int.gcd b (a % b) : Nat) : Int) ∣ b := Int.gcd_dvd_left ..
      have d2 : ((Int.gcd b (a % b) : Nat) : Int) ∣ a % b := Int.gcd_dvd_right ..
      have d3 : ((Int.gcd b (a % b) : Nat) : Int) ∣ a := by
        have := Int.dvd_add (Int.dvd_mul_of_dvd_left (c := a / b) d1) d2
        rw [Int.mul_ediv_add_emod] at this
        exact this
      exact Int.dvd_gcd d3 d1
    · have d1 : ((Int.gcd a b : Nat) : Int) ∣ a := Int.gcd_dvd_left ..
      have d2 : ((Int.gcd a b : Nat) : Int) ∣ b := Int.gcd_dvd_right ..
      have d3 : ((Int.gcd a b : Nat) : Int) ∣ a % b := by
        have h := Int.dvd_sub d1 (Int.dvd_mul_of_dvd_left (c := a / b) d2)
        have e : a - b * (a / b) = a % b := by have := Int.mul_ediv_add_emod a b; omega
        rw [e] at h
        exact h
      exact Int.dvd_gcd d2 d3
  exact h1
def sp_law_g_gcd : Sp := fun vs H Q _ => ∃ (a b : Int), vs = [.int a, .int b] ∧ 0 ≤ b ∧ ∀ r H', Ex H H' → r.natAbs = Nat.gcd a.natAbs b.natAbs → (0 ≤ a → 0 ≤ r) → Q (.int r) H'
theorem ok_law_g_gcd (T : Wk h0 K mg base) : ClC CX0 PP w K mg base 1 "_law_g_gcd" ["a", "b"] sp_law_g_gcd := by
  obtain ⟨fd, F⟩ := f_law_g_gcd T
  refine ⟨_, fd, g_law_g_gcd T, F.kp, F.bindsN (fun _ _ _ _ _ _ us hl => match us, hl with | [_, _], _ => rfl), F.ok sc_law_g_gcd (fun vs H Q E h => ?_) (fun cdv A outer s H vs Q E hr h => ⟨_, PSs.nox (pss_cons (ps_while PassesOwn.never (pt_cmpR (op_ne) (pv 1) (pe_int) (nomark _)) (pss_one (ps_par (i := 0) (j := 1) (by rfl) sc_law_g_gcd.nd rfl rfl (by decide) rfl rfl (pa_cons (pv 1) (pa_cons (pe_op op_mod (pe_callTy call_int1 (by rfl) (m_int T) (by decide +kernel) (pa_cons (pv 0) pa_nil)) (pv 1)) pa_nil)) (by rfl)))) (pss_one (ps_ret (pv 0)))), ?_⟩)⟩
  · obtain ⟨a, b, rfl, _⟩ := h; rfl
  · obtain ⟨a, b, rfl, hb, hQ⟩ := h
    refine q_while (fun m σ' H' => ∃ a' b' : Int, σ' = [some (.int a'), some (.int b')] ∧ m = b'.natAbs ∧ 0 ≤ b' ∧ Ex H H' ∧ Nat.gcd a'.natAbs b'.natAbs = Nat.gcd a.natAbs b.natAbs ∧ (0 ≤ a → 0 ≤ a')) b.natAbs ⟨a, b, rfl, rfl, hb, Ex.refl H, rfl, fun h => h⟩ ?_
    rintro m σ' H' ⟨a', b', rfl, rfl, hb', e, hg, hs⟩
    refine ⟨!decide (V.int b' = V.int 0), et_test (ev_op (ev_var rfl) ev_c (rv_ne rfl)), fun hy H1 e1 => ?_, fun hn H1 e1 => ?_⟩
    · have hnz : b' ≠ 0 := fun z => by rw [z] at hy; simp at hy
      have hpos : 0 < b' := by omega
      refine ⟨fun σ2 H2 => ∃ m', m' < b'.natAbs ∧ ∃ a2 b2 : Int, σ2 = [some (.int a2), some (.int b2)] ∧ m' = b2.natAbs ∧ 0 ≤ b2 ∧ Ex H H2 ∧ Nat.gcd a2.natAbs b2.natAbs = Nat.gcd a.natAbs b.natAbs ∧ (0 ≤ a → 0 ≤ a2), fun σ2 H2 h => h, ?_⟩
      refine s_par (v := .int b') (w := .int (a' % b')) (ea2 (ev_var rfl) (ev_op (ev_int1 (ev_var rfl)) (ev_var rfl) (rv_I hpos))) fun H2 e2 => ?_
      have h1 := Int.emod_nonneg a' hnz
      have h2 := Int.emod_lt_of_pos a' hpos
      exact ⟨(a' % b').natAbs, by omega, b', a' % b', rfl, rfl, h1, (e.trans e1).trans e2, (gcd_step hpos).trans hg, fun _ => by omega⟩
    · have hz : b' = 0 := by
        by_cases h : b' = 0
        · exact h
        · have : decide (V.int b' = V.int 0) = false := decide_eq_false (fun z => h (by injection z))
          rw [this] at hn; cases hn
      subst hz
      refine s_ret (v := .int a') (ev_var rfl) fun H2 e2 => hQ a' H2 ((e.trans e1).trans e2) ?_ hs
      rw [← hg]
      simp
/-! shares -/
def posR (ns : List Int) : Bool := ns.all fun n => decide (0 < n)
def sp_law_g_shares (K : PySem.W.Frag) : Sp := fun vs H Q _ => ∃ (b : Bool) (a : Addr) (ns : List Int), vs = [.ref a] ∧ SqB K H b a (ns.map V.int) ∧ ns.length ≤ 1000 ∧ posR ns = true ∧ RetL ((shares ns).map V.int) H Q
theorem ok_law_g_shares (T : Wk h0 K mg base) : ClC CX0 PP w K mg base 2 "_law_g_shares" ["row"] (sp_law_g_shares K) := by
  obtain ⟨fd, F⟩ := f_law_g_shares T
  refine ⟨_, fd, g_law_g_shares T, F.kp, F.bindsN (fun _ _ _ _ _ _ us hl => match us, hl with | [_], _ => rfl), F.ok sc_law_g_shares (fun vs H Q E h => ?_) (fun cdv A outer s H vs Q E hr h => ⟨_, PSs.nox (pss_cons (ps_par (i := 1) (j := 2) (by rfl) sc_law_g_shares.nd rfl rfl (by decide) rfl rfl (pa_cons (pe_lst pa_nil) (pa_cons (pe_int) pa_nil)) (by rfl)) (pss_cons (ps_for PassesOwn.never rfl (pi_any (pv 0)) (pg_name (i := 3) sc_law_g_shares.nd rfl (Or.inl rfl)) (pss_cons (ps_set (i := 2) sc_law_g_shares.nd rfl (Or.inl rfl) (pe_ifExp (pt_cmpR (op_ne) (pv 2) (pe_int) (nomark _)) (pe_cl (ok_law_g_gcd T) hr (by decide) (by rfl) (pa_cons (pv 2) (pa_cons (pv 3) pa_nil))) (pv 3))) (pss_one (ps_expr (pe_bm PySem.F.plainAttrs_list PySem.F.slot_list_append PySem.F.type_list_append mt_append (pv 1) (pa_cons (pv 2) pa_nil)))))) (pss_one (ps_ret (pv 1))))), ?_⟩)⟩
  · obtain ⟨b, a, ns, rfl, _⟩ := h; rfl
  · obtain ⟨b, a, ns, rfl, sq, hl, hpos, hQ⟩ := h
    refine q_parL (el_lst ea_nil (by decide)) ev_c fun l H1 hl1 e1 h1 => ?_
    refine q_forA (b := b) (a := a) (xs := ns.map V.int) (ev_var rfl) (sq.ex e1) (fun i σ' H' => ∃ (acc : List Int) (here : Int) (it : Option V), σ' = [some (.ref a), some (.ref l), some (.int here), it] ∧ Ex H H' ∧ H' l = some (.lst (acc.map V.int)) ∧ shares ns = acc ++ shGo here (ns.drop i) ∧ acc.length = i ∧ 0 ≤ here)
      (fun H2 e2 => ⟨[], 0, none, rfl, e1.trans e2, e2 l _ h1, rfl, rfl, by decide⟩) (fun i σ' H' _ ⟨acc, here, it, _, e, _⟩ => sq.ex e) (fun i x σ' H' hx ⟨acc, here, it, es, e, hacc, hs, hal, hh⟩ => ?_) (fun σ' H' ⟨acc, here, it, es, e, hacc, hs, hal, hh⟩ => ?_)
    · subst es
      rw [List.getElem?_map] at hx
      cases hn : ns[i]? with
      | none => rw [hn] at hx; cases hx
      | some n =>
        rw [hn] at hx
        cases hx
        have hn0 : 0 < n := of_decide_eq_true (List.all_eq_true.mp hpos n (List.mem_of_getElem? hn))
        have hd : ns.drop i = n :: ns.drop (i + 1) := by
          obtain ⟨hlt, e3⟩ := List.getElem?_eq_some_iff.mp hn
          rw [← e3]; exact List.drop_eq_getElem_cons hlt
        have hlt : i < ns.length := (List.getElem?_eq_some_iff.mp hn).1
        refine q_asg (v := .int ((Nat.gcd here.natAbs n.natAbs : Nat) : Int)) (ev_if (b := !decide (V.int here = V.int 0)) (et_test (ev_op (ev_var rfl) ev_c (rv_ne rfl))) (fun hy => ?_) (fun hz => ?_)) fun H2 e2 => ?_
        · refine EvP.ev ((ep_call (P := fun v _ => ∃ r : Int, v = .int r ∧ r.natAbs = Nat.gcd here.natAbs n.natAbs ∧ 0 ≤ r) (ea2 (ev_var rfl) (ev_var rfl)) fun H2 e2 Q q E => ⟨here, n, rfl, by omega, fun r H3 e3 h1 h2 => q _ H3 e3 ⟨r, rfl, h1, h2 hh⟩⟩).imp fun v H2 _ ⟨r, ev, h1, h2⟩ => ?_)
          subst ev
          congr 1
          omega
        · have hz' : here = 0 := by
            by_cases h : here = 0
            · exact h
            · have : decide (V.int here = V.int 0) = false := decide_eq_false (fun z => h (by injection z))
              rw [this] at hz; cases hz
          subst hz'
          refine ev_is (ev_var rfl) (congrArg V.int ?_)
          have : Nat.gcd (0 : Int).natAbs n.natAbs = n.natAbs := by simp
          rw [this]
          omega
        · refine s_app (e2 l _ hacc) (ev_var rfl) (ev_var rfl) (by rw [List.length_map]; omega) fun H3 e3 => ?_
          refine ⟨acc ++ [((Nat.gcd here.natAbs n.natAbs : Nat) : Int)], _, _, rfl, Ex.mut ((e.trans e2).trans e3) hl1, ?_, ?_, by simp [hal], by omega⟩
          · rw [List.map_append]; exact upd_same
          · rw [hs, hd, List.append_assoc]; rfl
    · subst es
      rw [List.length_map] at hs
      rw [List.drop_length] at hs
      have hs' : shares ns = acc := by rw [hs]; exact List.append_nil _
      refine s_ret (ev_var rfl) fun H2 e2 => hQ l H2 hl1 (e.trans e2) ?_
      rw [hs']
      exact e2 l _ hacc
/-! rows -/
def rows : List (List Int) := [[1], [1], [2, 3], [2, 5], [2, 7], [3, 4], [3, 5], [3, 7], [4, 5], [4, 6, 7], [4, 6, 9], [4, 6, 13], [6, 9, 10], [4, 10, 11], [5, 6], [6, 8, 11], [8, 12, 14, 15]]
def tupI (ns : List Int) : PyData := .tuple (ns.map PyData.int)
def sp_law_g_rows (K : PySem.W.Frag) : Sp := fun vs H Q _ => ∃ (p l : Addr) (n : Nat), vs = [.ref p] ∧ Pen l n H p ∧ n ≤ 100000 ∧ ∀ ns v H', ns ∈ rows → ExX p H H' → Pen l (n + 1) H' p → Dp K H' v (tupI ns) → Q v H'
theorem ok_law_g_rows (T : Wk h0 K mg base) : ClC CX0 PP w K mg base 3 "_law_g_rows" ["pen"] (sp_law_g_rows K) := by
  obtain ⟨fd, F⟩ := f_law_g_rows T
  refine ⟨_, fd, g_law_g_rows T, F.kp, F.bindsN (fun _ _ _ _ _ _ us hl => match us, hl with | [_], _ => rfl), F.ok sc_law_g_rows (fun vs H Q E h => ?_) (fun cdv A outer s H vs Q E hr h => ⟨_, PSs.nox (pss_cons (ps_set (i := 1) sc_law_g_rows.nd rfl (Or.inl rfl) (pe_lst (pa_cons (pe_tup (pa_cons (pe_int) pa_nil)) (pa_cons (pe_tup (pa_cons (pe_int) pa_nil)) (pa_cons (pe_tup (pa_cons (pe_int) (pa_cons (pe_int) pa_nil))) (pa_cons (pe_tup (pa_cons (pe_int) (pa_cons (pe_int) pa_nil))) (pa_cons (pe_tup (pa_cons (pe_int) (pa_cons (pe_int) pa_nil))) (pa_cons (pe_tup (pa_cons (pe_int) (pa_cons (pe_int) pa_nil))) (pa_cons (pe_tup (pa_cons (pe_int) (pa_cons (pe_int) pa_nil))) (pa_cons (pe_tup (pa_cons (pe_int) (pa_cons (pe_int) pa_nil))) (pa_cons (pe_tup (pa_cons (pe_int) (pa_cons (pe_int) pa_nil))) (pa_cons (pe_tup (pa_cons (pe_int) (pa_cons (pe_int) (pa_cons (pe_int) pa_nil)))) (pa_cons (pe_tup (pa_cons (pe_int) (pa_cons (pe_int) (pa_cons (pe_int) pa_nil)))) (pa_cons (pe_tup (pa_cons (pe_int) (pa_cons (pe_int) (pa_cons (pe_int) pa_nil)))) (pa_cons (pe_tup (pa_cons (pe_int) (pa_cons (pe_int) (pa_cons (pe_int) pa_nil)))) (pa_cons (pe_tup (pa_cons (pe_int) (pa_cons (pe_int) (pa_cons (pe_int) pa_nil)))) (pa_cons (pe_tup (pa_cons (pe_int) (pa_cons (pe_int) pa_nil))) (pa_cons (pe_tup (pa_cons (pe_int) (pa_cons (pe_int) (pa_cons (pe_int) pa_nil)))) (pa_cons (pe_tup (pa_cons (pe_int) (pa_cons (pe_int) (pa_cons (pe_int) (pa_cons (pe_int) pa_nil))))) pa_nil))))))))))))))))))) (pss_one (ps_ret (pe_cl (ok_law_pick T) hr (by decide) (by rfl) (pa_cons (pv 0) (pa_cons (pv 1) pa_nil)))))), ?_⟩)⟩
  · obtain ⟨p, l, n, rfl, _⟩ := h; rfl
  · obtain ⟨p, l, n, rfl, hp, hn, hQ⟩ := h
    refine q_asgP (P := fun v H1 => Dp K H1 v (.list (rows.map tupI))) ?_ fun v H1 e1 hv => ?_
    · refine epD_lst (ds := rows.map tupI) ?_ (by decide)
      show EvAD K _ _ _ [tupI [1], tupI [1], tupI [2, 3], tupI [2, 5], tupI [2, 7], tupI [3, 4], tupI [3, 5], tupI [3, 7], tupI [4, 5], tupI [4, 6, 7], tupI [4, 6, 9], tupI [4, 6, 13], tupI [6, 9, 10], tupI [4, 10, 11], tupI [5, 6], tupI [6, 8, 11], tupI [8, 12, 14, 15]]
      repeat (first | exact ead_nil | (refine ead_cons (epD_tup ?_ (by decide)) ?_; rotate_left))
      all_goals (simp only [List.map]; repeat (first | exact ead_nil | refine ead_cons epD_int ?_))
    · obtain ⟨a, xs, rfl, sq, da⟩ := Dp.seq_inv (b := false) hv
      have hl := DpAll.length da
      have hl17 : xs.length = 17 := hl
      obtain ⟨kvs, hk⟩ := hp.isD
      refine s_retCall (ea2 (ev_var rfl) (ev_var rfl)) fun H2 e2 => ⟨p, l, n, false, a, xs, rfl, hp.ex (e1.trans e2), hn, sq.ex e2, by omega, by omega, fun k x H3 hx x3 pn => ?_⟩
      obtain ⟨d, h1, h2⟩ := DpAll.get (DpAll.ex e2 da) hx
      rw [List.getElem?_map] at h1
      cases hr' : rows[k]? with
      | none => rw [hr'] at h1; cases h1
      | some ns =>
        rw [hr'] at h1
        cases h1
        exact hQ ns x H3 (List.mem_of_getElem? hr') ((ExX.of (e1.trans e2)).trans x3) pn (Dp.exN ((e1.trans e2) _ _ hk) True.intro x3 h2)
end
end K41
set_option maxHeartbeats 0
/-! The walks: the law's own cables. -/
namespace K41
open PySem PySem.Spec PyProof.Rows L2 He TC Evl
section
variable {w : World} {h0 base : Heap} {K : PySem.W.Frag} {mg : Str → Option Value}
theorem ev_absgcd {σ : L2.St} {H : Hp} {ta tb : TE} {a p : Int} (hp : 0 ≤ p) (h1 : Ev ta σ H (.int a)) (h2 : Ev tb σ H (.int p)) : Ev (tCB (fun xs H Q => ∃ i, xs = [.int i] ∧ Q (.int (if i < 0 then -i else i)) H) (tCons (tCall sp_law_g_gcd [] E0 (tCons ta (tCons tb tNil))) tNil)) σ H (.int ((Nat.gcd p.natAbs a.natAbs : Nat) : Int)) := fun H1 e Q q =>
  (ep_call (P := fun v _ => ∃ r : Int, v = .int r ∧ r.natAbs = Nat.gcd a.natAbs p.natAbs) (ea2 h1 h2) fun H2 e2 Q q E => ⟨a, p, rfl, hp, fun r H3 e3 h3 _ => q _ H3 e3 ⟨r, rfl, h3⟩⟩) H1 e _ fun v H2 e2 ⟨r, ev, hr⟩ => by
    subst ev
    refine ⟨r, rfl, ?_⟩
    have h3 : (if r < 0 then -r else r) = ((Nat.gcd p.natAbs a.natAbs : Nat) : Int) := by
      rw [Nat.gcd_comm]
      split <;> omega
    rw [h3]
    exact q H2 e2
def sp_law_breach (K : PySem.W.Frag) : Sp := fun vs H Q _ => ∃ (x : V) (b : Bool) (ps : PL), vs = [x] ∧ Dp K H x (cabD b ps) ∧ Small ps = true ∧ ∀ v H', Ex H H' → Dp K H' v (brD (brOf ps)) → Q v H'
theorem ok_law_breach (T : Wk h0 K mg base) : ClC CX0 PP w K mg base 2 "_law_breach" ["cable"] (sp_law_breach K) := by
  obtain ⟨fd, F⟩ := f_law_breach T
  refine ⟨_, fd, g_law_breach T, F.kp, F.bindsN (fun _ _ _ _ _ _ us hl => match us, hl with | [_], _ => rfl), F.ok sc_law_breach (fun vs H Q E h => ?_) (fun cdv A outer s H vs Q E hr h => ⟨_, PSs.nox (pss_cons (ps_set (i := 1) sc_law_breach.nd rfl (Or.inl rfl) (pe_non)) (pss_cons (ps_for PassesOwn.never rfl (pi_enumA (by rfl) (m_enumerate T) (pa_cons (pv 0) pa_nil)) (pg_tup rfl (pgs_cons (pg_name (i := 2) sc_law_breach.nd rfl (Or.inl rfl)) (pgs_cons (pg_name (i := 3) sc_law_breach.nd rfl (Or.inl rfl)) pgs_nil))) (pss_cons (ps_asg (pv 3) (pg_tup rfl (pgs_cons (pg_name (i := 4) sc_law_breach.nd rfl (Or.inl rfl)) (pgs_cons (pg_name (i := 5) sc_law_breach.nd rfl (Or.inl rfl)) pgs_nil)))) (pss_cons (ps_if (pt_cmpR (op_lt) (pv 4) (pe_int) (nomark _)) (pss_one (ps_ret (pe_tup (pa_cons (pe_str) (pa_cons (pv 2) pa_nil))))) pss_nil) (pss_cons (ps_if (pt_cmpR (op_ne) (pe_callB call_abs (by rfl) (m_abs T) boot_abs (pa_cons (pe_cl (ok_law_g_gcd T) hr (by decide) (by rfl) (pa_cons (pv 5) (pa_cons (pv 4) pa_nil))) pa_nil)) (pe_int) (nomark _)) (pss_one (ps_ret (pe_tup (pa_cons (pe_str) (pa_cons (pv 2) pa_nil))))) pss_nil) (pss_cons (ps_if (pt_cmpR (op_le) (pv 5) (pe_ifExp (pt_cmpR (op_isN) (pv 1) (pe_non) (nomark _)) (pv 4) (pe_op op_mul (pv 1) (pv 4))) (nomark _)) (pss_one (ps_ret (pe_tup (pa_cons (pe_str) (pa_cons (pv 2) pa_nil))))) pss_nil) (pss_one (ps_set (i := 1) sc_law_breach.nd rfl (Or.inl rfl) (pe_op op_mul (pv 5) (pv 4))))))))) (pss_one (ps_ret (pe_non))))), ?_⟩)⟩
  · obtain ⟨x, b, ps, rfl, _⟩ := h; rfl
  · obtain ⟨x, b, ps, rfl, hd, hs, hQ⟩ := h
    obtain ⟨a, xs, rfl, sq, da, hlen⟩ := cab_inv hd
    refine q_asg (v := .non) ev_c fun H1 e1 => ?_
    refine q_forEn (b := b) (a := a) (xs := xs) (ea1 (ev_var rfl)) (sq.ex e1) (fun k σ' H' => ∃ (l : Option Int) (x2 x3 x4 x5 : Option V), σ' = [some (.ref a), some (optI l), x2, x3, x4, x5] ∧ Ex H H' ∧ brOf ps = brGo l k (ps.drop k))
      (fun H2 e2 => ⟨none, none, none, none, none, rfl, e1.trans e2, rfl⟩) (fun k σ' H' _ ⟨_, _, _, _, _, _, e, _⟩ => sq.ex e) (fun k x σ' H' H'' hx ⟨l, x2, x3, x4, x5, es, e, hbr⟩ e2 => ?_) (fun σ' H' ⟨l, x2, x3, x4, x5, es, e, hbr⟩ => ?_)
    · subst es
      obtain ⟨p, c, hp, rfl, hc⟩ := cab_at da hx
      have hsp := small_at hs k
      have eg : ps.getD k (0, 0) = p := by rw [List.getD_eq_getElem?_getD, hp]; rfl
      rw [eg] at hsp
      have hdr : ps.drop k = p :: ps.drop (k + 1) := by
        obtain ⟨hlt, e3⟩ := List.getElem?_eq_some_iff.mp hp
        rw [← e3]; exact List.drop_eq_getElem_cons hlt
      obtain ⟨p1, p2⟩ := p
      rw [hdr] at hbr
      have E2 := e.trans e2
      refine q_unp (ev_var rfl) (ex_t E2 hc) fun H2 e3 => ?_
      have E3 := E2.trans e3
      refine q_when (b := decide (p1 < 2)) (et_test (ev_op (ev_var rfl) ev_c rv_I0)) (fun hb H3 e4 => ?_) (fun hb H3 e4 => ?_)
      · exact s_retBr (ev_var rfl) fun v H4 e5 hv => hQ v H4 ((E3.trans e4).trans e5) (by
          rw [hbr]; unfold brGo; rw [if_pos (of_decide_eq_true hb)]; exact hv)
      have n1 := of_decide_eq_false hb
      refine q_when (b := !decide (V.int ((Nat.gcd p1.natAbs p2.natAbs : Nat) : Int) = V.int 1)) (et_test (ev_op (ev_absgcd (a := p2) (p := p1) (by omega) (ev_var rfl) (ev_var rfl)) ev_c (rv_ne rfl))) (fun hb2 H4 e5 => ?_) (fun hb2 H4 e5 => ?_)
      · have ng : ((Nat.gcd p1.natAbs p2.natAbs : Nat) : Int) ≠ 1 := fun z => by rw [z] at hb2; simp at hb2
        exact s_retBr (ev_var rfl) fun v H5 e6 hv => hQ v H5 (((E3.trans e4).trans e5).trans e6) (by
          rw [hbr]; unfold brGo; rw [if_neg n1, if_pos ng]; exact hv)
      have yg : ¬ ((Nat.gcd p1.natAbs p2.natAbs : Nat) : Int) ≠ 1 := fun z => by
        have : decide (V.int ((Nat.gcd p1.natAbs p2.natAbs : Nat) : Int) = V.int 1) = false := decide_eq_false (fun y => z (by injection y))
        rw [this] at hb2; cases hb2
      refine q_when (b := decide (p2 ≤ thr l p1)) (et_test (ev_op (ev_var rfl) (y := .int (thr l p1)) ?_ rv_I0)) (fun hb3 H5 e6 => ?_) (fun hb3 H5 e6 => ?_)
      · cases l with
        | none => exact ev_if (b := true) (et_test (ev_is (ev_isN (x := .non) (ev_var rfl)) (congrArg V.bl (decide_eq_true rfl)))) (fun _ => ev_var rfl) (fun h => by cases h)
        | some i => exact ev_if (b := false) (et_test (ev_is (ev_isN (x := .int i) (ev_var rfl)) (congrArg V.bl (decide_eq_false (fun z => nomatch z))))) (fun h => by cases h) (fun _ => ev_op (ev_var rfl) (ev_var rfl) (rv_I (cmul (.inr ⟨by omega, by omega⟩))))
      · exact s_retBr (ev_var rfl) fun v H6 e7 hv => hQ v H6 ((((E3.trans e4).trans e5).trans e6).trans e7) (by
          rw [hbr]; unfold brGo; rw [if_neg n1, if_neg yg, if_pos (of_decide_eq_true hb3)]; exact hv)
      · refine s_asg (v := .int (p2 * p1)) (ev_op (ev_var rfl) (ev_var rfl) (rv_I (cmul (.inr ⟨by omega, by omega⟩)))) fun H6 e7 => ?_
        refine ⟨some (p2 * p1), _, _, _, _, rfl, (((E3.trans e4).trans e5).trans e6).trans e7, ?_⟩
        rw [hbr]
        conv => lhs; unfold brGo
        rw [if_neg n1, if_neg yg, if_neg (of_decide_eq_false hb3)]
    · subst es
      rw [hlen, List.drop_length] at hbr
      exact s_ret ev_c fun H2 e2 => hQ .non H2 (e.trans e2) (by rw [hbr]; exact .non)
/-! _law_t_cable -/
theorem el_lshares {te : TE} {σ : L2.St} {b : Bool} {a : Addr} {ns : List Int} {H : Hp} (h : Ev te σ H (.ref a)) (sq : SqB K H b a (ns.map V.int)) (hl : ns.length ≤ 1000) (hp : posR ns = true) : EvL (tCall (sp_law_g_shares K) [] E0 (tCons te tNil)) σ H ((shares ns).map V.int) :=
  el_call (dvs := []) (ea1 h) fun H1 e Q q E => ⟨b, a, ns, rfl, sq.ex e, hl, hp, fun p H2 hp e2 h2 => q p H2 hp e2 h2⟩
def sp_law_t_cable (K : PySem.W.Frag) : Sp := fun vs H Q _ => ∃ (a : Addr) (ns : List Int), vs = [.ref a] ∧ SqT K H a (ns.map V.int) ∧ okRow ns = true ∧ posR ns = true ∧ ∀ v H', Ex H H' → Dp K H' v (cabD false (cabOf ns)) → Q v H'
theorem ok_law_t_cable (T : Wk h0 K mg base) : ClC CX0 PP w K mg base 3 "_law_t_cable" ["row"] (sp_law_t_cable K) := by
  obtain ⟨fd, F⟩ := f_law_t_cable T
  refine ⟨_, fd, g_law_t_cable T, F.kp, F.bindsN (fun _ _ _ _ _ _ us hl => match us, hl with | [_], _ => rfl), F.ok sc_law_t_cable (fun vs H Q E h => ?_) (fun cdv A outer s H vs Q E hr h => ⟨_, PSs.nox (pss_cons (ps_par (i := 1) (j := 2) (by rfl) sc_law_t_cable.nd rfl rfl (by decide) rfl rfl (pa_cons (pe_cl (ok_law_g_shares T) hr (by decide) (by rfl) (pa_cons (pv 0) pa_nil)) (pa_cons (pe_lst pa_nil) pa_nil)) (by rfl)) (pss_cons (ps_for PassesOwn.never rfl (pi_range2 (by rfl) (m_range T) (pa_cons (pe_int) (pa_cons (pe_callB (call_lenK (K := K) rfl) (by rfl) (m_len T) boot_len (pa_cons (pv 0) pa_nil)) pa_nil))) (pg_name (i := 3) sc_law_t_cable.nd rfl (Or.inl rfl)) (pss_cons (ps_set (i := 4) sc_law_t_cable.nd rfl (Or.inl rfl) (pe_op op_fdivN (pe_ix (ix_seqK (K := K) rfl) (pv 1) (pe_op op_sub (pv 3) (pe_int)) (fun _ _ => rfl)) (pe_ix (ix_seqK (K := K) rfl) (pv 1) (pv 3) (fun _ _ => rfl)))) (pss_cons (ps_set (i := 5) sc_law_t_cable.nd rfl (Or.inl rfl) (pe_ifExp (pt_cmpR (op_eq) (pv 3) (pe_int) (nomark _)) (pe_op op_fdivN (pe_ix (ix_seqK (K := K) rfl) (pv 0) (pe_int) (fun _ _ => rfl)) (pe_ix (ix_seqK (K := K) rfl) (pv 1) (pe_int) (fun _ _ => rfl))) (pe_op op_add (pe_op op_mul (pe_op op_mul (pe_ix (ix_seqK (K := K) rfl) (pe_ix (ix_seqK (K := K) rfl) (pv 2) (pe_un un_neg (pe_int)) (fun _ _ => rfl)) (pe_int) (fun _ _ => rfl)) (pe_ix (ix_seqK (K := K) rfl) (pe_ix (ix_seqK (K := K) rfl) (pv 2) (pe_un un_neg (pe_int)) (fun _ _ => rfl)) (pe_int) (fun _ _ => rfl))) (pv 4)) (pe_op op_fdivN (pe_callTy call_int1 (by rfl) (m_int T) (by decide +kernel) (pa_cons (pe_op op_sub (pe_ix (ix_seqK (K := K) rfl) (pv 0) (pv 3) (fun _ _ => rfl)) (pe_ix (ix_seqK (K := K) rfl) (pv 0) (pe_op op_sub (pv 3) (pe_int)) (fun _ _ => rfl))) pa_nil)) (pe_ix (ix_seqK (K := K) rfl) (pv 1) (pv 3) (fun _ _ => rfl)))))) (pss_one (ps_expr (pe_bm PySem.F.plainAttrs_list PySem.F.slot_list_append PySem.F.type_list_append mt_append (pv 2) (pa_cons (pe_tup (pa_cons (pv 4) (pa_cons (pv 5) pa_nil))) pa_nil))))))) (pss_one (ps_ret (pv 2))))), ?_⟩)⟩
  · obtain ⟨a, ns, rfl, _⟩ := h; rfl
  · obtain ⟨a, ns, rfl, sq, hok, hpo, hQ⟩ := h
    have ok := okRow_iff hok
    have hl5 := ok.len
    refine q_parLL (el_lshares (b := true) (ev_var rfl) sq (by omega) hpo) (el_lst ea_nil (by decide)) fun l f H1 hl hf e1 hl1 hf1 => ?_
    have slen : (shares ns).length = ns.length := shGo_len ns 0
    have rwi : ∀ {σ : L2.St} {te ti : TE} {H' : Hp} {i : Nat}, Ex H H' → i < ns.length → Ev te σ H' (.ref a) → Ev ti σ H' (.int (i : Int)) → Ev (tOp (rIxA K) te ti) σ H' (.int (sN ns i)) := fun {σ te ti H' i} e hi h h2 => ev_ixA (b := true) h h2 (ex_t e sq) (atI_int hi)
    have prev : ∀ {σ : L2.St} {te : TE} {H1 : Hp} {i : Nat}, 1 ≤ i → Ev te σ H1 (.int (i : Int)) → Ev (tOp (rI0 fun i j => .int (i - j)) te (tC (.int 1))) σ H1 (.int ((i - 1 : Nat) : Int)) := fun {σ te H1 i} h1 h => ev_is (ev_op h ev_c rv_I0) (by congr 1; omega)
    have hlf : l ≠ f := fun z => by
      have h1 := hl1; have h2 := hf1
      rw [z, h2] at h1
      have h3 := congrArg (fun o : Option HO => match o with | some (.lst ys) => ys.length | _ => 0) h1
      simp at h3
      have := ok.pos
      omega
    refine q_forR2 (lo := 1) (n := (ns.length : Int)) (ea2 ev_c (ev_is (ev_lenA (b := true) (ev_var rfl) (ex_t e1 sq)) (by rw [List.length_map]))) ⟨by decide, by decide, by omega, by omega⟩
      (fun i σ' H' => ∃ (x3 x4 x5 : Option V) (xs : List V), σ' = [some (.ref a), some (.ref l), some (.ref f), x3, x4, x5] ∧ Ex H H' ∧ H' l = some (.lst ((shares ns).map V.int)) ∧ H' f = some (.lst xs) ∧ DpAll K H' xs ((cabUp ns i).map prD))
      (fun H2 e2 => ⟨none, none, none, [], rfl, e1.trans e2, e2 l _ hl1, e2 f _ hf1, .nil⟩) (fun i σ' H' hi ⟨x3, x4, x5, xs, es, e, hl2, hf2, hd⟩ => ?_) (fun σ' H' ⟨x3, x4, x5, xs, es, e, hl2, hf2, hd⟩ => ?_)
    · subst es
      have hi' : i + 1 < ns.length := by omega
      have ei : (1 : Int) + (i : Int) = ((i + 1 : Nat) : Int) := by omega
      rw [ei]
      have hxl : xs.length = i := by have := DpAll.length hd; rw [List.length_map, cabUp_len] at this; exact this
      have shi : ∀ {σ : L2.St} {te ti : TE} {H2 : Hp} {i : Nat}, Ex H' H2 → i < ns.length → Ev te σ H2 (.ref l) → Ev ti σ H2 (.int (i : Int)) → Ev (tOp (rIxA K) te ti) σ H2 (.int (sS ns i)) := fun {σ te ti H' i} e hi h h2 => ev_ixA h h2 (SqB.l (sq_of (e l _ hl2))) (atI_int (by omega))
      have s0 := ok.s0 (i + 1) hi'
      have s1 := ok.s1 (i + 1) hi'
      refine q_asg (v := .int (pF ns (i + 1))) (ev_op (shi (i := i) (Ex.refl _) (by omega) (ev_var rfl) (prev (i := i + 1) (by omega) (ev_var rfl))) (shi (i := i + 1) (Ex.refl _) hi' (ev_var rfl) (ev_var rfl)) (rv_I ⟨by omega, by omega⟩)) fun H2 e2 => ?_
      refine q_asg (v := .int (aF ns (i + 1))) (ev_if (b := decide (i = 0)) (et_is (et_test (ev_op (ev_var rfl) ev_c (rv_eq rfl))) ((nat_beq_v (n := i + 1) (m := 1)).trans (by by_cases h : i = 0 <;> simp [h]))) (fun hz => ?_) (fun hz => ?_)) fun H3 e3 => ?_
      · have hz' : i = 0 := of_decide_eq_true hz
        subst hz'
        have t0 : 0 < sS ns 1 := ok.s0 1 (by omega)
        have t1 : sS ns 1 < 2 ^ 30 := ok.s1 1 (by omega)
        exact ev_op (rwi (i := 1) (e.trans e2) hi' (ev_var rfl) ev_c) (shi (i := 1) e2 hi' (ev_var rfl) ev_c) (rv_I ⟨by omega, by omega⟩)
      · have hz' : i ≠ 0 := of_decide_eq_false hz
        obtain ⟨m, rfl⟩ : ∃ m, i = m + 1 := ⟨i - 1, by omega⟩
        have hb1 := ok.a (m + 1) (by omega)
        have hb2 := ok.p (m + 1) (by omega)
        have hb3 := ok.p (m + 1 + 1) (by omega)
        have lastI : ∃ c, xs[xs.length - 1]? = some (.ref c) ∧ SqT K H' c [.int (pF ns (m + 1)), .int (aF ns (m + 1))] := by
          obtain ⟨c, h1, h2⟩ := cab_at' hd (k := m) (by rw [cabUp_len]; omega)
          have eg : (cabUp ns (m + 1)).getD m (0, 0) = (pF ns (m + 1), aF ns (m + 1)) := by
            rw [cabUp_succ, List.getD_eq_getElem?_getD, List.getElem?_append_right (by rw [cabUp_len]; exact Nat.le_refl _), cabUp_len]
            simp
          rw [eg] at h2
          exact ⟨c, by rw [hxl]; exact h1, h2⟩
        obtain ⟨c, hc1, hc2⟩ := lastI
        have fl : ∀ {σ : L2.St}, σ[2]? = some (some (.ref f)) → Ev (tOp (rIxA K) (tVar 2) (tUn (rU fun i => .int (-i)) (tC (.int 1)))) σ H2 (.ref c) := fun {σ} hσ => ev_ixA (ev_var hσ) (ev_un ev_c ru_neg) (SqB.l (sq_of (e2 f _ hf2))) (atI_m1 hc1)
        have sq' : SqT K H2 c [.int (pF ns (m + 1)), .int (aF ns (m + 1))] := ex_t e2 hc2
        exact ev_op (x := .int (aF ns (m + 1) * pF ns (m + 1) * pF ns (m + 1 + 1))) (y := .int ((sN ns (m + 1 + 1) - sN ns (m + 1)).fdiv (sS ns (m + 1 + 1))))
          (ev_op (ev_op (ev_ixA (b := true) (i := 1) (fl rfl) ev_c sq' (atI_n (i := 1) rfl)) (ev_ixA (b := true) (i := 0) (fl rfl) ev_c sq' (atI_n (i := 0) rfl)) (rv_I (cmul (.inl hb1)))) (ev_var rfl) (rv_I (cmul (.inr hb3))))
          (ev_op (ev_int1 (ev_op (rwi (i := m + 1 + 1) (e.trans e2) hi' (ev_var rfl) (ev_var rfl)) (rwi (i := m + 1) (e.trans e2) (by omega) (ev_var rfl) (prev (i := m + 1 + 1) (by omega) (ev_var rfl))) rv_I0)) (shi (i := m + 1 + 1) e2 hi' (ev_var rfl) (ev_var rfl)) (rv_I ⟨by omega, by omega⟩)) rv_I0
      · refine s_appP (P := fun v H4 => Dp K H4 v (prD (pF ns (i + 1), aF ns (i + 1)))) ((e2.trans e3) f _ hf2) (ev_var rfl) (ep_pair (ev_var rfl) (ev_var rfl) (.int _) (.int _)) (by rw [hxl]; omega) fun v H4 e4 hv => ?_
        have hf3 : H4 f = some (.lst xs) := ((e2.trans e3).trans e4) f _ hf2
        refine ⟨_, _, _, xs ++ [v], rfl, Ex.mut (((e.trans e2).trans e3).trans e4) hf, by rw [upd_ne hlf]; exact ((e2.trans e3).trans e4) l _ hl2, upd_same, ?_⟩
        rw [cabUp_succ]
        exact prs_X hf3 ExX.upd (by rw [List.map_append]; exact DpAll.snoc (DpAll.ex ((e2.trans e3).trans e4) hd) hv)
    · subst es
      have en : ((ns.length : Int) - 1).toNat = ns.length - 1 := by omega
      rw [en] at hd
      exact s_ret (ev_var rfl) fun H2 e2 => hQ _ H2 (e.trans e2) (Dp.seq (b := false) (sq_of (e2 f _ hf2)) (DpAll.ex e2 hd))
/-! _law_row -/
def sp_law_row (K : PySem.W.Frag) : Sp := fun vs H Q _ => ∃ (x : V) (b : Bool) (ps : PL), vs = [x] ∧ Dp K H x (cabD b ps) ∧ Small ps = true ∧ ps.length ≤ 4 ∧ ∀ v H', Ex H H' → Dp K H' v (.tuple ((rowOf ps).map PyData.int)) → Q v H'
theorem ok_law_row (T : Wk h0 K mg base) : ClC CX0 PP w K mg base 1 "_law_row" ["cable"] (sp_law_row K) := by
  obtain ⟨fd, F⟩ := f_law_row T
  refine ⟨_, fd, g_law_row T, F.kp, F.bindsN (fun _ _ _ _ _ _ us hl => match us, hl with | [_], _ => rfl), F.ok sc_law_row (fun vs H Q E h => ?_) (fun cdv A outer s H vs Q E hr h => ⟨_, PSs.nox (pss_cons (ps_set (i := 1) sc_law_row.nd rfl (Or.inl rfl) (pe_lst (pa_cons (pe_int) pa_nil))) (pss_cons (ps_for PassesOwn.never rfl (pi_any (pe_revA (pv 0))) (pg_tup rfl (pgs_cons (pg_name (i := 2) sc_law_row.nd rfl (Or.inl rfl)) (pgs_cons (pg_name (i := 3) sc_law_row.nd rfl (Or.inl rfl)) pgs_nil))) (pss_one (ps_set (i := 1) sc_law_row.nd rfl (Or.inl rfl) (pe_op op_cat (pe_lst (pa_cons (pe_op op_mul (pe_ix (ix_seqK (K := K) rfl) (pv 1) (pe_int) (fun _ _ => rfl)) (pv 2)) pa_nil)) (pv 1))))) (pss_cons (ps_set (i := 4) sc_law_row.nd rfl (Or.inl rfl) (pe_lst (pa_cons (pe_ix (ix_seqK (K := K) rfl) (pv 1) (pe_int) (fun _ _ => rfl)) pa_nil))) (pss_cons (ps_for PassesOwn.never rfl (pi_enumA (by rfl) (m_enumerate T) (pa_cons (pv 0) pa_nil)) (pg_tup rfl (pgs_cons (pg_name (i := 5) sc_law_row.nd rfl (Or.inl rfl)) (pgs_cons (pg_name (i := 6) sc_law_row.nd rfl (Or.inl rfl)) pgs_nil))) (pss_one (ps_if (pt_cmpR (op_eq) (pv 5) (pe_int) (nomark _)) (pss_one (ps_expr (pe_bm PySem.F.plainAttrs_list PySem.F.slot_list_append PySem.F.type_list_append mt_append (pv 4) (pa_cons (pe_op op_mul (pe_ix (ix_seqK (K := K) rfl) (pv 6) (pe_int) (fun _ _ => rfl)) (pe_ix (ix_seqK (K := K) rfl) (pv 1) (pe_int) (fun _ _ => rfl))) pa_nil)))) (pss_one (ps_expr (pe_bm PySem.F.plainAttrs_list PySem.F.slot_list_append PySem.F.type_list_append mt_append (pv 4) (pa_cons (pe_op op_add (pe_ix (ix_seqK (K := K) rfl) (pv 4) (pe_un un_neg (pe_int)) (fun _ _ => rfl)) (pe_op op_mul (pe_op op_sub (pe_ix (ix_seqK (K := K) rfl) (pv 6) (pe_int) (fun _ _ => rfl)) (pe_op op_mul (pe_op op_mul (pe_ix (ix_seqK (K := K) rfl) (pe_ix (ix_seqK (K := K) rfl) (pv 0) (pe_op op_sub (pv 5) (pe_int)) (fun _ _ => rfl)) (pe_int) (fun _ _ => rfl)) (pe_ix (ix_seqK (K := K) rfl) (pe_ix (ix_seqK (K := K) rfl) (pv 0) (pe_op op_sub (pv 5) (pe_int)) (fun _ _ => rfl)) (pe_int) (fun _ _ => rfl))) (pe_ix (ix_seqK (K := K) rfl) (pv 6) (pe_int) (fun _ _ => rfl)))) (pe_ix (ix_seqK (K := K) rfl) (pv 1) (pe_op op_add (pv 5) (pe_int)) (fun _ _ => rfl)))) pa_nil))))))) (pss_one (ps_ret (pe_callTy call_tuple_of (by rfl) (m_tuple T) (by decide +kernel) (pa_cons (pv 4) pa_nil)))))))), ?_⟩)⟩
  · obtain ⟨x, b, ps, rfl, _⟩ := h; rfl
  · obtain ⟨x, b, ps, rfl, hd, hs, hl4, hQ⟩ := h
    obtain ⟨a, xs, rfl, sq, da, hlen⟩ := cab_inv hd
    refine q_asgL (el_lst (ea1 ev_c) (by decide)) fun l0 H1 _ e1 hl0 => ?_
    refine q_forRev (b := b) (a := a) (xs := xs) (ev_var rfl) (sq.ex e1) (fun p0 i σ' H' => ∃ (l : Addr) (x2 x3 : Option V), σ' = [some (.ref a), some (.ref l), x2, x3, none, none, none] ∧ Ex H H' ∧ H' l = some (.lst ((shF (ps.drop (ps.length - i))).map V.int)) ∧ SqB K H' b p0 xs.reverse)
      (fun p0 H2 _ e2 hp0 => ⟨l0, none, none, rfl, e1.trans e2, by rw [Nat.sub_zero, List.drop_length]; exact e2 l0 _ hl0, hp0⟩) (fun p0 i σ' H' _ ⟨_, _, _, _, _, _, z⟩ => z) (fun p0 i x σ' H' hx ⟨l, x2, x3, es, e, hsh, hp0⟩ => ?_) (fun p0 σ' H' ⟨l, x2, x3, es, e, hsh, hp0⟩ => ?_)
    · subst es
      have hi : i < xs.length := by have := (List.getElem?_eq_some_iff.mp hx).1; rw [List.length_reverse] at this; exact this
      rw [List.getElem?_reverse hi] at hx
      obtain ⟨p, c, hp, rfl, hc⟩ := cab_at da hx
      have hj : ps.length - (i + 1) = xs.length - 1 - i := by omega
      have hj2 : ps.length - i = (xs.length - 1 - i) + 1 := by omega
      have hjl : xs.length - 1 - i < ps.length := by omega
      have eg : ps.getD (xs.length - 1 - i) (0, 0) = p := by rw [List.getD_eq_getElem?_getD, hp]; rfl
      have hsp := small_at hs (xs.length - 1 - i)
      have hstep := shF_drop hjl
      rw [eg] at hsp hstep
      rw [hj2] at hsh
      generalize shF (ps.drop (xs.length - 1 - i + 1)) = S at hsh hstep
      have hS : S.length ≤ 6 := by
        have h1 := congrArg List.length hstep
        rw [shF_len, List.length_drop] at h1
        simp at h1
        omega
      have hS0 : 0 < S.length := by
        have h1 := congrArg List.length hstep
        rw [shF_len, List.length_drop] at h1
        simp at h1
        omega
      refine ⟨c, _, rfl, ex_t e hc, rfl, _, _, rfl, _, _, rfl, rfl, ?_⟩
      refine s_asgL (el_cat (l := l) (el_lst (ea1 (v := .int (S.headD 0 * p.1)) (ev_op (ev_ixA (i := 0) (ev_var rfl) ev_c (SqB.l (sq_of hsh)) (atI_int (i := 0) hS0)) (ev_var rfl) ?_)) (by show (1 : Nat) ≤ 100000; decide)) (ev_var rfl) hsh (by rw [List.length_map]; show 1 + S.length ≤ 100000; omega)) fun l2 H2 _ e2 hl2 => ?_
      · rw [headD_getD]
        exact rv_I (cmul (.inr ⟨by omega, by omega⟩))
      · refine ⟨l2, _, _, rfl, e.trans e2, ?_, hp0.ex e2⟩
        rw [hj, hstep]
        exact hl2
    · subst es
      rw [hlen, Nat.sub_self, List.drop_zero] at hsh
      have hSl := shF_len ps
      refine q_asgL (el_lst (ea1 (v := .int ((shF ps).headD 0)) (ev_is (ev_ixA (i := 0) (ev_var rfl) ev_c (SqB.l (sq_of hsh)) (atI_int (i := 0) (by omega))) (by rw [headD_getD]))) (by show (1 : Nat) ≤ 100000; decide)) fun f H2 hf e2 hfl => ?_
      have E2 := e.trans e2
      refine q_forEn (b := b) (a := a) (xs := xs) (ea1 (ev_var rfl)) (sq.ex E2) (fun k σ' H3 => ∃ (x2 x3 x6 x7 : Option V), σ' = [some (.ref a), some (.ref l), x2, x3, some (.ref f), x6, x7] ∧ Ex H' H3 ∧ H3 f = some (.lst ((foundL ps k).map V.int)))
        (fun H3 e3 => ⟨_, _, none, none, rfl, e2.trans e3, e3 f _ hfl⟩) (fun k σ' H3 _ ⟨_, _, _, _, _, e3, _⟩ => sq.ex (e.trans e3)) (fun k x σ' H3 H4 hx ⟨x2, x3, x6, x7, es, e3, hfk⟩ e4 => ?_) (fun σ' H3 ⟨x2, x3, x6, x7, es, e3, hfk⟩ => ?_)
      · subst es
        obtain ⟨p, c, hp, rfl, hc⟩ := cab_at da hx
        have hk : k < ps.length := (List.getElem?_eq_some_iff.mp hp).1
        have eg : ps.getD k (0, 0) = p := by rw [List.getD_eq_getElem?_getD, hp]; rfl
        have hsp := small_at hs k
        have EH4 : Ex H H4 := (e.trans e3).trans e4
        have hfH4 := e4 f _ hfk
        have hshH4 := (e3.trans e4) l _ hsh
        have fk := foundL_len ps k
        refine s_if (b := decide (k = 0)) (et_is (et_test (ev_op (ev_var rfl) ev_c (rv_eq rfl))) ((nat_beq_v (n := k) (m := 0)).trans (by by_cases h : k = 0 <;> simp [h]))) (fun hz H5 e5 => ?_) (fun hz H5 e5 => ?_)
        · have hz' : k = 0 := of_decide_eq_true hz
          subst hz'
          have EH5 := EH4.trans e5
          refine s_app (v := .int (accF ps 1)) (e5 f _ hfH4) (ev_var rfl) (ev_is (ev_op (ev_ixA (b := true) (p := c) (xs := [.int p.1, .int p.2]) (i := 1) (v := .int (ps.getD 0 (0, 0)).2) (ev_var rfl) ev_c (ex_t EH5 hc) (by rw [eg]; exact atI_n (i := 1) rfl)) (ev_ixA (i := 1) (ev_var rfl) ev_c (SqB.l (sq_of (e5 l _ hshH4))) (atI_int (i := 1) (by omega))) (rv_I (cmul (.inl ⟨by omega, by omega⟩)))) ?_) (by rw [List.length_map, fk]; omega) fun H6 e6 => ?_
          · show V.int ((ps.getD 0 (0, 0)).2 * (shF ps).getD 1 0) = V.int (0 + (ps.getD 0 (0, 0)).2 * (shF ps).getD (0 + 1) 0)
            rw [Int.zero_add]
          · refine ⟨x2, x3, _, _, rfl, Ex.mut (((e3.trans e4).trans e5).trans e6) hf, ?_⟩
            rw [foundL_succ, List.map_append]
            exact upd_same
        · have hz' : k ≠ 0 := of_decide_eq_false hz
          obtain ⟨m, rfl⟩ : ∃ m, k = m + 1 := ⟨k - 1, by omega⟩
          have EH5 := EH4.trans e5
          obtain ⟨c2, hc2, hs2⟩ := cab_at' da (k := m) (by omega)
          have hm1 := small_at hs m
          have h1 := mulb (nab hm1.2) (nab hm1.1)
          have h2 := mulb (mulb (nab hm1.2) (nab hm1.1)) (nab hsp.1)
          have h2' : ((ps.getD m (0, 0)).2 * (ps.getD m (0, 0)).1 * (ps.getD (m + 1) (0, 0)).1).natAbs < 2 ^ 20 * 2 ^ 20 * 2 ^ 20 := h2
          have cprev : ∀ {σ : L2.St} {H6 : Hp}, Ex H H6 → σ[0]? = some (some (.ref a)) → σ[5]? = some (some (.int ((m + 1 : Nat) : Int))) → Ev (tOp (rIxA K) (tVar 0) (tOp (rI0 fun i j => .int (i - j)) (tVar 5) (tC (.int 1)))) σ H6 (.ref c2) := fun {σ H6} e6 h0 h5 => ev_ixA (i := (m : Int)) (ev_var h0) (ev_is (ev_op (ev_var h5) ev_c rv_I0) (by congr 1; omega)) (sq.ex e6) (atI_n hc2)
          refine s_app (v := .int (accF ps (m + 1 + 1))) (e5 f _ hfH4) (ev_var rfl) (ev_op (x := .int (accF ps (m + 1))) (y := .int (stepF ps (m + 1) * (shF ps).getD (m + 1 + 1) 0)) (ev_ixA (ev_var rfl) (ev_un ev_c ru_neg) (SqB.l (sq_of (e5 f _ hfH4))) (atI_m1 ?_)) (ev_op (x := .int (stepF ps (m + 1))) (ev_op (ev_ixA (b := true) (p := c) (xs := [.int p.1, .int p.2]) (i := 1) (v := .int (ps.getD (m + 1) (0, 0)).2) (ev_var rfl) ev_c (ex_t EH5 hc) (by rw [eg]; exact atI_n (i := 1) rfl)) (ev_op (ev_op (ev_ixA (b := true) (p := c2) (i := 1) (cprev EH5 rfl rfl) ev_c (ex_t EH5 hs2) (atI_n (i := 1) rfl)) (ev_ixA (b := true) (p := c2) (i := 0) (cprev EH5 rfl rfl) ev_c (ex_t EH5 hs2) (atI_n (i := 0) rfl)) (rv_I (cmul (.inl ⟨by omega, by omega⟩)))) (ev_ixA (b := true) (p := c) (xs := [.int p.1, .int p.2]) (i := 0) (v := .int (ps.getD (m + 1) (0, 0)).1) (ev_var rfl) ev_c (ex_t EH5 hc) (by rw [eg]; exact atI_n (i := 0) rfl)) (rv_I (cmul (.inr ⟨by omega, by omega⟩)))) rv_I0) (ev_ixA (i := ((m + 1 + 1 : Nat) : Int)) (ev_var rfl) (ev_is (ev_op (ev_var rfl) ev_c rv_I0) (by congr 1)) (SqB.l (sq_of (e5 l _ hshH4))) (atI_int (by omega))) (rv_I (.inl ?_))) rv_I0) (by rw [List.length_map, fk]; omega) fun H6 e6 => ?_
          · rw [List.length_map, fk, List.getElem?_map]
            have := foundL_last ps m
            rw [List.getD_eq_getElem?_getD] at this
            have hg : (foundL ps (m + 1))[m + 1]? = some (foundL ps (m + 1))[m + 1] := List.getElem?_eq_getElem (by rw [foundL_len]; omega)
            rw [hg] at this
            have hgoal : (foundL ps (m + 1))[m + 1 + 1 - 1]? = some (accF ps (m + 1)) := by
              show (foundL ps (m + 1))[m + 1]? = _
              rw [hg]; exact congrArg some this
            rw [hgoal]; rfl
          · show -(2 ^ 64) < (ps.getD (m + 1) (0, 0)).2 - (ps.getD m (0, 0)).2 * (ps.getD m (0, 0)).1 * (ps.getD (m + 1) (0, 0)).1 ∧ (ps.getD (m + 1) (0, 0)).2 - (ps.getD m (0, 0)).2 * (ps.getD m (0, 0)).1 * (ps.getD (m + 1) (0, 0)).1 < 2 ^ 64
            omega
          · refine ⟨x2, x3, _, _, rfl, Ex.mut (((e3.trans e4).trans e5).trans e6) hf, ?_⟩
            have eg2 := foundL_succ ps (m + 1)
            rw [eg2, List.map_append]
            exact upd_same
      · subst es
        rw [hlen] at hfk
        refine s_retP (P := fun v H' => Dp K H' v (.tuple ((rowOf ps).map PyData.int))) ((ep_tupleOf (b := false) (R := fun xs _ => xs = (rowOf ps).map V.int) ((Ev.p (ev_var rfl)).imp fun v H4 e4 ev => ⟨f, _, ev, sq_of (e4 f _ hfk), rfl⟩) (fun _ _ _ _ z => z)).imp fun v H4 _ ⟨q, ys, ev, hs', hy⟩ => ?_) fun v H4 e4 hv => hQ v H4 ((e.trans e3).trans e4) hv
        subst ev hy
        exact Dp.tup hs' DpAll.ints
end
end K41
set_option maxHeartbeats 0
/-! The walks: what is due. -/
namespace K41
open PySem PySem.Spec PyProof.Rows L2 He TC Evl
section
variable {w : World} {h0 base : Heap} {K : PySem.W.Frag} {mg : Str → Option Value}
theorem ep_lbreach {te : TE} {σ : L2.St} {H : Hp} {x : V} {b : Bool} {ps : PL} (h : Ev te σ H x) (hd : Dp K H x (cabD b ps)) (hs : Small ps = true) : EvP (tCall (sp_law_breach K) [] E0 (tCons te tNil)) σ H (fun v H1 => Dp K H1 v (brD (brOf ps))) :=
  ep_call (ea1 h) fun H1 e Q q E => ⟨x, b, ps, rfl, Dp.ex e hd, hs, q⟩
theorem ep_lrow {te : TE} {σ : L2.St} {H : Hp} {x : V} {b : Bool} {ps : PL} (h : Ev te σ H x) (hd : Dp K H x (cabD b ps)) (hs : Small ps = true) (hl : ps.length ≤ 4) : EvP (tCall (sp_law_row K) [] E0 (tCons te tNil)) σ H (fun v H1 => Dp K H1 v (.tuple ((rowOf ps).map PyData.int))) :=
  ep_call (ea1 h) fun H1 e Q q E => ⟨x, b, ps, rfl, Dp.ex e hd, hs, hl, q⟩
theorem given_none {n : Nat} {v : Nat → V} : given n (fun _ => false) v = [] := by
  unfold given
  rw [List.filter_eq_nil_iff.mpr (fun _ _ => Bool.false_ne_true)]
  rfl
def sp_law_due (K : PySem.W.Frag) : Sp := fun vs H Q _ => ∃ (x y : V) (b : Bool) (ps : PL) (an : An), vs = [x, y] ∧ Dp K H x (cabD b ps) ∧ ps.length ≤ 4 ∧ Small ps = true ∧ AnA K y H an ∧ okAn an ∧ ∀ v H', Ex H H' → Dp K H' v (faultOf ps an) → Q v H'
theorem ok_law_due (T : Wk h0 K mg base) : ClC CX0 PP w K mg base 3 "_law_due" ["cable", "answer"] (sp_law_due K) := by
  obtain ⟨fd, F⟩ := f_law_due T
  refine ⟨_, fd, g_law_due T, F.kp, F.bindsN (fun _ _ _ _ _ _ us hl => match us, hl with | [_, _], _ => rfl), F.ok sc_law_due (fun vs H Q E h => ?_) (fun cdv A outer s H vs Q E hr h => ⟨_, PSs.nox (pss_cons (ps_set (i := 2) sc_law_due.nd rfl (Or.inl rfl) (pe_cl (ok_law_breach T) hr (by decide) (by rfl) (pa_cons (pv 0) pa_nil))) (pss_cons (ps_if (pt_val (pe_callB (call_isi1 (K := K) rfl) (by rfl) (m_isinstance T) boot_isinstance (pa_cons (pv 1) (pa_cons (pe_glob (v := .ref (ga K "CableOf")) (by rfl) (g_CableOf T) rfl) pa_nil)))) (pss_cons (ps_if (pt_cmpR (op_notN) (pv 2) (pe_non) (nomark _)) (pss_one (ps_ret (pe_tup (pa_cons (pe_str) pa_nil)))) pss_nil) (pss_cons (ps_set (i := 3) sc_law_due.nd rfl (Or.inl rfl) (pe_fld (pv 1) rfl)) (pss_cons (ps_if (PW.pt (pw_or (pt_not (pt_val (pe_callB (call_isi2 (K := K) rfl) (by rfl) (m_isinstance T) boot_isinstance (pa_cons (pv 3) (pa_cons (pe_tup (pa_cons (pe_bltn (v := .ty "list") (by rfl) (m_list T) (by decide +kernel) rfl) (pa_cons (pe_bltn (v := .ty "tuple") (by rfl) (m_tuple T) (by decide +kernel) rfl) pa_nil))) pa_nil))))) (pw_or1 (pt_cmpR (op_neD (hu64 hr)) (pe_lc (own := [("item", 4)]) (g := gName 4) rfl sc_law_due.nd (pi_any (pv 3)) (blkOk_by (N := N_law_due) (sc := defScope s_law_due) (by decide +kernel)) (fun _ _ _ _ _ => (pg_name (i := 4) sc_law_due.nd rfl (Or.inl rfl))) (fun _ _ _ _ _ => (pts_one (pt_val (pe_callB (call_isi1 (K := K) rfl) (by rfl) (m_isinstance T) boot_isinstance (pa_cons (pv 4) (pa_cons (pe_bltn (v := .ty "bool") (by rfl) (m_bool T) (by decide +kernel) rfl) pa_nil)))))) (fun _ _ _ _ _ => (pe_int))) (pe_lst pa_nil) (nomark _))))) (pss_one (ps_ret (pe_tup (pa_cons (pe_str) pa_nil)))) pss_nil) (pss_one (ps_ret (pe_ifExp (pt_cmpR (op_eqD (hu64 hr)) (pe_callTy call_tuple_of (by rfl) (m_tuple T) (by decide +kernel) (pa_cons (pv 3) pa_nil)) (pe_cl (ok_law_row T) hr (by decide) (by rfl) (pa_cons (pv 0) pa_nil)) (nomark _)) (pe_non) (pe_tup (pa_cons (pe_str) pa_nil)))))))) pss_nil) (pss_cons (ps_if (pt_not (pt_val (pe_callB (call_isi1 (K := K) rfl) (by rfl) (m_isinstance T) boot_isinstance (pa_cons (pv 1) (pa_cons (pe_glob (v := .ref (ga K "NoCable")) (by rfl) (g_NoCable T) rfl) pa_nil))))) (pss_one (ps_ret (pe_tup (pa_cons (pe_str) pa_nil)))) pss_nil) (pss_cons (ps_if (pt_cmpR (op_isN) (pv 2) (pe_non) (nomark _)) (pss_one (ps_ret (pe_tup (pa_cons (pe_str) pa_nil)))) pss_nil) (pss_cons (ps_if (pt_cmpR (op_ne) (pe_fld (pv 1) rfl) (pe_ix (ix_seqK (K := K) rfl) (pv 2) (pe_int) (fun _ _ => rfl)) (nomark _)) (pss_one (ps_ret (pe_tup (pa_cons (pe_str) pa_nil)))) pss_nil) (pss_one (ps_ret (pe_ifExp (PW.pt (pw_and (pt_not (pt_val (pe_callB (call_isi1 (K := K) rfl) (by rfl) (m_isinstance T) boot_isinstance (pa_cons (pe_fld (pv 1) rfl) (pa_cons (pe_bltn (v := .ty "bool") (by rfl) (m_bool T) (by decide +kernel) rfl) pa_nil))))) (pw_and1 (pt_cmpR (op_eq) (pe_fld (pv 1) rfl) (pe_ix (ix_seqK (K := K) rfl) (pv 2) (pe_int) (fun _ _ => rfl)) (nomark _))))) (pe_non) (pe_tup (pa_cons (pe_str) pa_nil)))))))))), ?_⟩)⟩
  · obtain ⟨x, y, b, ps, an, rfl, _⟩ := h; rfl
  · obtain ⟨x, y, b, ps, an, rfl, hd, hl, hs, han, hok, hQ⟩ := h
    refine q_asgP (ep_lbreach (ev_var rfl) hd hs) fun bv H3 E3 hb => ?_
    refine q_when (et_B (ev_isCab T (ev_var rfl) (AnA.ex E3 han))) (fun h1 H4 e4 => ?_) (fun h1 H4 e4 => ?_)
    · cases an with
      | no _ _ => cases h1
      | flat _ => cases h1
      | cab r =>
        have E4 := E3.trans e4
        obtain ⟨y1, dy, u, rfl, hy, hu⟩ := AnA.ex E4 han
        have hQ' : ∀ v H', Ex H4 H' → Dp K H' v (faultOf ps (.cab r)) → Q v H' := fun v H' e hv => hQ v H' (E4.trans e) hv
        cases hc : brOf ps with
        | some p =>
          obtain ⟨s, i⟩ := p
          rw [hc] at hb
          obtain ⟨q, rfl, sqx⟩ := brD_inv hb
          refine q_when (b := true) (et_test (ev_is (ev_notN (x := .ref q) (ev_var rfl)) (congrArg V.bl (by rw [decide_eq_false (fun z => nomatch z)]; rfl)))) (fun _ H5 e5 => ?_) (fun h => by cases h)
          exact s_retOne (d := faultOf ps (.cab r)) (by unfold faultOf; rw [hc]; rfl) fun v H6 e6 hv => hQ' v H6 (e5.trans e6) hv
        | none =>
          rw [hc] at hb
          cases hb
          refine q_when (b := false) (et_test (ev_is (ev_notN (x := .non) (ev_var rfl)) (congrArg V.bl (by rw [decide_eq_true rfl]; rfl)))) (fun h => by cases h) (fun _ H5 e5 => ?_)
          have hfo : faultOf ps (.cab r) = if r = some (rowOf ps) then .none else one "row" := by unfold faultOf; rw [hc]; rfl
          have hy5 := e5 _ _ hy
          have hu5 := Dp.ex e5 hu
          refine q_asg (ev_fld (ev_var rfl) hy5 (c_CableOf T) (n_CableOf_row T) rfl) fun H6 e6 => ?_
          have hu6 := Dp.ex e6 hu5
          cases r with
          | none =>
            cases hu6
            refine q_when (b := !false || false) (et_or (et_not (et_B (ev_isiT (ev_var rfl) (.ty _) (.ty _) (.base .non) (kit2 (s := "NoneType") (c1 := false) (c2 := false) (r := false) (by decide +kernel) (by decide +kernel) rfl)))) (fun h => by cases h)) (fun _ H7 e7 => ?_) (fun h => by cases h)
            exact s_retOne (d := faultOf ps (.cab none)) (by rw [hfo, if_neg (fun z => nomatch z)]) fun v H8 e8 hv => hQ' v H8 (((e5.trans e6).trans e7).trans e8) hv
          | some ns =>
            obtain ⟨a, rfl, sq⟩ := tup_ints_inv (ns := ns) hu6
            have hok' : ns.length ≤ 1000 := hok
            refine q_when (b := !true || !PyData.eqv (.list []) (.list [])) (et_or (et_not (et_B (ev_isiT (ev_var rfl) (.ty _) (.ty _) (TyX.t sq) (kit2 (s := "tuple") (c1 := false) (c2 := true) (r := true) (by decide +kernel) (by decide +kernel) rfl)))) (fun _ => et_test (ep_neD (d := .list []) (e := .list []) ?_ ?_ (by decide) (by decide)))) (fun h H7 e7 => ?_) (fun _ H7 e7 => ?_)
            · refine (EvL.p (el_lcA (b := true) (fun _ => false) (fun _ => .non) (ev_var rfl) sq (by rw [List.length_map]; omega) (fun _ => rfl) (fun i x H8 e8 hx => ?_) (fun i x H8 _ _ h => by cases h))).imp fun v H8 e8 ⟨q, ev, hq⟩ => ?_
              · rw [List.getElem?_map] at hx
                cases hn : ns[i]? with
                | none => rw [hn] at hx; cases hx
                | some n =>
                  rw [hn] at hx
                  cases hx
                  exact et_B (ev_isi (ev_var rfl) (.ty _) (.base (.int n)) (kit_ty (a := "int") (b := "bool") (r := false) (by decide +kernel)))
              · subst ev
                rw [given_none] at hq
                exact .lst (sq_of hq) .nil
            · exact epD_lst ead_nil (by decide)
            · simp [PyData.eqv, PyData.eqvAll] at h
            · have E7 := E4.trans ((e5.trans e6).trans e7)
              refine s_retP (P := fun v H' => Dp K H' v (faultOf ps (.cab (some ns)))) (ep_if (b := decide (some ns = some (rowOf ps))) ?_ (fun hy => ?_) (fun hn => ?_)) fun v H8 e8 hv => hQ' v H8 (((e5.trans e6).trans e7).trans e8) hv
              · refine et_is (et_test (ep_eqD ((ep_tupleOf (b := true) (R := fun xs _ => xs = ns.map V.int) ((Ev.p (ev_var rfl)).imp fun v H8 e8 ev => ⟨a, _, ev, ex_t (e7.trans e8) sq, rfl⟩) (fun _ _ _ _ z => z)).imp fun v H8 _ ⟨q, ys, ev, hs', hy⟩ => ?_) (ep_lrow (ev_var rfl) (Dp.ex E7 hd) hs hl) (shaped_ints (b := true) (ns := ns)) (shaped_ints (b := true)))) ?_
                · subst ev hy
                  exact Dp.tup hs' DpAll.ints
                · rw [show PyData.eqv (seqD true (ns.map PyData.int)) (.tuple ((rowOf ps).map PyData.int)) = decide (ns = rowOf ps) from eqv_ints (b := true)]
                  exact decide_eq_decide.mpr ⟨fun h => by rw [h], fun h => by injection h⟩
              · rw [hfo, if_pos (of_decide_eq_true hy)]
                exact (Ev.p ev_c).imp fun v H' _ e => e ▸ Dp.non
              · rw [hfo, if_neg (of_decide_eq_false hn)]
                exact ep_one
    have E4 := E3.trans e4
    have hQ' : ∀ v H', Ex H4 H' → Dp K H' v (faultOf ps an) → Q v H' := fun v H' e hv => hQ v H' (E4.trans e) hv
    refine q_when (et_not (et_B (ev_isNo T (ev_var rfl) (AnA.ex E4 han)))) (fun h2 H5 e5 => ?_) (fun h2 H5 e5 => ?_)
    · cases an with
      | cab _ => cases h1
      | no _ _ => cases h2
      | flat c => exact s_retOne (d := faultOf ps (.flat c)) rfl fun v H6 e6 hv => hQ' v H6 (e5.trans e6) hv
    cases an with
    | cab _ => cases h1
    | flat _ => cases h2
    | no w i =>
      have E5 := E4.trans e5
      obtain ⟨y1, dy, v1, v2, rfl, hy, p1, p2⟩ := AnA.ex E5 han
      cases hc : brOf ps with
      | none =>
        rw [hc] at hb
        cases hb
        refine q_when (b := true) (et_test (ev_is (ev_isN (x := .non) (ev_var rfl)) (congrArg V.bl (decide_eq_true rfl)))) (fun _ H6 e6 => ?_) (fun h => by cases h)
        exact s_retOne (d := faultOf ps (.no w i)) (by unfold faultOf; rw [hc]) fun v H7 e7 hv => hQ' v H7 ((e5.trans e6).trans e7) hv
      | some p =>
        obtain ⟨s, j⟩ := p
        rw [hc] at hb
        obtain ⟨q, rfl, sqx⟩ := brD_inv hb
        have hfo : faultOf ps (.no w i) = if w ≠ some s then one "why" else if i = .inl j then .none else one "index" := by unfold faultOf; rw [hc]
        refine q_when (b := false) (et_test (ev_is (ev_isN (x := .ref q) (ev_var rfl)) (congrArg V.bl (decide_eq_false (fun z => nomatch z))))) (fun h => by cases h) (fun _ H6 e6 => ?_)
        have why : ∀ {σ : L2.St} {te : TE} {H7 : Hp}, Ex H5 H7 → Ev te σ H7 (.ref y1) → Ev (tFld K te "why") σ H7 v1 := fun {σ te H7} e h => ev_fld h (e _ _ hy) (c_NoCable T) (n_NoCable_why T) rfl
        have idx : ∀ {σ : L2.St} {te : TE} {H7 : Hp}, Ex H5 H7 → Ev te σ H7 (.ref y1) → Ev (tFld K te "index") σ H7 v2 := fun {σ te H7} e h => ev_fld h (e _ _ hy) (c_NoCable T) (n_NoCable_index T) rfl
        have sqx6 : SqT K H6 q [.str s, .int j] := ex_t ((e4.trans e5).trans e6) sqx
        refine q_when (b := decide (w ≠ some s)) ?_ (fun hw H7 e7 => ?_) (fun hw H7 e7 => ?_)
        · cases w with
          | none =>
            cases p1
            refine et_is (et_test (ev_op (why e6 (ev_var rfl)) (ev_ixA (b := true) (i := 0) (ev_var rfl) ev_c sqx6 (atI_n (i := 0) rfl)) (rv_ne rfl))) ?_
            have h3 : decide (V.non = V.str s) = false := decide_eq_false (fun h => nomatch h)
            have h4 : decide ((none : Option Str) ≠ some s) = true := decide_eq_true (fun z => nomatch z)
            rw [h3, h4]; rfl
          | some z =>
            cases p1
            refine et_is (et_test (ev_op (why e6 (ev_var rfl)) (ev_ixA (b := true) (i := 0) (ev_var rfl) ev_c sqx6 (atI_n (i := 0) rfl)) (rv_ne rfl))) ?_
            by_cases hzs : z = s
            · subst hzs; simp
            · have h3 : decide (V.str z = V.str s) = false := decide_eq_false (fun h => hzs (by injection h))
              have h4 : decide (some z ≠ some s) = true := decide_eq_true (fun h => hzs (by injection h))
              rw [h3, h4]; rfl
        · exact s_retOne (d := faultOf ps (.no w i)) (by rw [hfo, if_pos (of_decide_eq_true hw)]) fun v H8 e8 hv => hQ' v H8 (((e5.trans e6).trans e7).trans e8) hv
        rw [if_neg (of_decide_eq_false hw)] at hfo
        have E67 := e6.trans e7
        refine s_retP (P := fun v H' => Dp K H' v (faultOf ps (.no w i))) (ep_if (b := decide (i = .inl j)) ?_ (fun hy' => ?_) (fun hn => ?_)) fun v H8 e8 hv => hQ' v H8 (((e5.trans e6).trans e7).trans e8) hv
        · cases i with
          | inl n =>
            cases p2
            refine et_is (et_and (a := !false) (b := decide (V.int n = V.int j)) (et_not (et_B (ev_isi (idx E67 (ev_var rfl)) (.ty _) (.base (.int n)) (kit_ty (a := "int") (b := "bool") (r := false) (by decide +kernel))))) (fun _ => et_test (ev_op (idx E67 (ev_var rfl)) (ev_ixA (b := true) (i := 1) (ev_var rfl) ev_c (ex_t e7 sqx6) (atI_n (i := 1) rfl)) (rv_eq rfl)))) ?_
            show (true && decide (V.int n = V.int j)) = _
            rw [Bool.true_and]
            exact decide_eq_decide.mpr ⟨fun h => by injection h with h; rw [h], fun h => by injection h with h; rw [h]⟩
          | inr c =>
            cases p2
            exact et_is (et_and (a := !true) (b := false) (et_not (et_B (ev_isi (idx E67 (ev_var rfl)) (.ty _) (.base (.bl c)) (kit_ty (a := "bool") (b := "bool") (r := true) (by decide +kernel))))) (fun h => by cases h)) (by rw [decide_eq_false (fun z => nomatch z)]; rfl)
        · rw [hfo, if_pos (of_decide_eq_true hy')]
          exact (Ev.p ev_c).imp fun v H' _ e => e ▸ Dp.non
        · rw [hfo, if_neg (of_decide_eq_false hn)]
          exact ep_one
end
end K41
set_option maxHeartbeats 0
/-! The walk: caught. -/
namespace TC
open PySem PySem.Spec PyProof.Rows L2 Evl
theorem Thunk.imp {P : Program} {w : World} {K : PySem.W.Frag} {mg : Str → Option Value} {base : Heap} {k : Nat} {f : Addr} {H : Hp} {Q Q' : VK} {E E' : XK} (h : Thunk P w K mg base k f H Q E) (hQ : ∀ v H', Q v H' → Q' v H') (hE : ∀ c d H', E c d H' → E' c d H') : Thunk P w K mg base k f H Q' E' := by
  intro A outer s hr hg e0
  obtain ⟨h1, h2⟩ := h A outer s hr hg e0
  refine ⟨h1, codeAny_mono h2 fun r s' q => ?_⟩
  cases r with
  | error e =>
    obtain ⟨a, B, H', cls, d, z1, z2, z3, z4, z5, z6, z7, z8⟩ := q
    exact ⟨a, B, H', cls, d, z1, z2, z3, z4, z5, z6, z7, hE _ _ _ z8⟩
  | ok fl =>
    cases fl with
    | ret u =>
      obtain ⟨v, H', z1, z2, z3, z4, z5, z6⟩ := q
      exact ⟨v, H', z1, z2, z3, z4, z5, hQ _ _ z6⟩
    | next => exact q
    | brk => exact q
    | cont => exact q
section
variable {X : Cx}
def tThunkS (P : Program) (w : World) (K : PySem.W.Frag) (mg : Str → Option Value) (base : Heap) (k i : Nat) (W : WX) : TE := fun σ H Q => ∃ f : Addr, σ[i]? = some (some (.ref f)) ∧ Thunk P w K mg base k f H Q (fun cls d H' => W cls d σ H')
theorem pe_thunkS {W : WX} {i k : Nat} {x : Str} {p pos : Pos} (hr : Room k X.A) (hg : X.A.guards = some []) (tk : Takes X W) (hN : X.N[i]? = some x) (hv : Vis X.env.scope x) (hdb : (x == ("__debug__" : Str)) = false := by decide) (hcd : (x == ("__classdict__" : Str)) = false := by decide) :
    PE X (.Call (.Name x p) [] [] pos) (tThunkS X.prog X.w X.K X.mg X.base k i W) := by
  refine ⟨fun pins s σ H Q I h => ?_⟩
  obtain ⟨f, hs, th⟩ := h
  refine wpAny_Call_Name_kw (thn ((pe_var (pos := p) hN hv hdb hcd).run pins s σ H (fun v H1 => v = .ref f ∧ H1 = H) I ⟨.ref f, hs, rfl, rfl⟩) fun u s1 ⟨v, H1, I1, r1, q1⟩ => ?_)
  obtain ⟨rfl, rfl⟩ := q1
  obtain rfl : u = Value.ref f := r1
  obtain ⟨fa, rc⟩ := th X.A X.stack s1 hr hg I1.env0
  refine PySem.W.callWith_F0 fa (wpAny_call (codeAny_mono rc fun r s' hq => ?_))
  cases r with
  | error e => exact (passAt tk σ) pins _ s1 e s' I1 hq
  | ok fl =>
    cases fl with
    | ret u => exact I1.after hq
    | next => exact False.elim hq
    | brk => exact False.elim hq
    | cont => exact False.elim hq
end
end TC
namespace K41
open PySem PySem.Spec PyProof.Rows L2 He TC Evl
/-- what a caught error gives -/
def Wish (K : PySem.W.Frag) (cls : Value) (d : Option Addr) (H' : Hp) (Q : VK) : Prop :=
  (∃ dd x dt, cls = .ref (ga K "BadRow") ∧ d = some dd ∧ H' dd = some (.xd [("value", x)]) ∧ Dp K H' x dt ∧ dt.showable = true ∧ dt.hasDict = false ∧ dt.depth ≤ 60 ∧ dt.shown.length ≤ sizeLine ∧ ∀ v H2, Ex H' H2 → Dp K H2 v (.tuple [.str "row", .str dt.shown]) → Q v H2) ∨
  (∃ dd x, cls = .ref (ga K "BadCharacters") ∧ d = some dd ∧ H' dd = some (.xd [("answer", x)]) ∧ ∀ v H2, Ex H' H2 → (∃ t, v = .ref t ∧ SqT K H2 t [.str "characters", x]) → Q v H2)
section
variable {w : World} {h0 base : Heap} {K : PySem.W.Frag} {mg : Str → Option Value}
def sp_caught (w : World) (K : PySem.W.Frag) (mg : Str → Option Value) (base : Heap) : Sp := fun vs H Q _ => ∃ f : Addr, vs = [.ref f] ∧ Thunk PP w K mg base 9 f H (fun _ _ => False) (fun cls d H' => Wish K cls d H' Q)
theorem exm (T : Wk h0 K mg base) {q : Str × Str × Bool} (h : q ∈ ml) : PySem.W.exmOne K (.ref (ga K q.1)) (.ref (ga K q.2.1)) = some q.2.2 := exm_ok (List.all_eq_true.mp T.ex.2.2.2.2.2.1 q h)
theorem ev_repr {σ : L2.St} {H : Hp} {te : TE} {x : V} {dt : PyData} (h : Ev te σ H x) (hd : Dp K H x dt) (h1 : dt.showable = true) (h2 : dt.hasDict = false) (h3 : dt.depth ≤ 60) (h4 : dt.shown.length ≤ sizeLine) : Ev (tCB (rRepr K) (tCons te tNil)) σ H (.str dt.shown) := fun H1 e Q q =>
  h H1 e _ fun H2 e2 => ⟨x, dt, rfl, Dp.ex (e.trans e2) hd, h1, h2, h3, h4, q H2 e2⟩
theorem ev_xf {σ : L2.St} {H : Hp} {te : TE} {a dd C : Addr} {f : Str} {x : V} (h : Ev te σ H (.ref a)) (hd : H dd = some (.xd [(f, x)])) : Ev (tXf a (.ref C) (some dd) C f te) σ H x := fun H1 e Q q =>
  h H1 e _ fun H2 e2 => ⟨rfl, rfl, dd, _, x, rfl, (e.trans e2) _ _ hd, by simp [List.lookup], q H2 e2⟩
theorem call_reprK {X : Cx} {K : PySem.W.Frag} (h : X.K = K) (hg : X.A.guards = some []) (hu : X.A.units + 64 < cLine) : CallR X (.builtin "repr") (rRepr K) := by
  subst h
  exact call_reprD hg hu
theorem never_takes {X : Cx} : Takes X (fun _ _ _ _ => False) := fun u s' x => by
  obtain ⟨_, _, _, _, _, _, _, _, _, _, _, _, _, _, _, _, _, z⟩ := x
theorem ok_caught (T : Wk h0 K mg base) : ∃ f fd, mg "_law_g_caught" = some (.ref f) ∧ PySem.W.keepIn K (.ref f) = true ∧ Binds K fd ["call"] [] ∧ FnG PP w K mg base CX0 10 f fd ["call"] (sp_caught w K mg base) := by
  obtain ⟨fd, F⟩ := f_law_g_caught T
  refine ⟨_, fd, g_law_g_caught T, F.kp, F.bindsN (fun _ _ _ _ _ _ us hl => match us, hl with | [_], _ => rfl), TC.FunD.okG F sc_law_g_caught (fun vs H Q E h => ?_) (fun cdv A outer s H vs Q E hcd hfd hr hg h => ⟨_, pss_one (ps_try_clauses rfl rfl sc_law_g_caught.nd (Wout := fun _ _ _ _ => False) never_takes (fun W pn xe tk _ => pss_one (ps_ret (pe_tup (pa_cons pe_str (pa_cons (show PE _ _ (tThunkS PP w K mg base 9 0 W) from pe_thunkS (i := 0) (k := 9) hr hg tk rfl (.inl rfl)) pa_nil)))))
    (.named (i := 1) ⟨rfl, by decide, .inl (g_BadItem T)⟩ rfl rfl (fun a oe cls d pn hz hf => pss_never)
    (.named (i := 1) ⟨rfl, by decide, .inl (g_BadNumber T)⟩ rfl rfl (fun a oe cls d pn hz hf => pss_never)
    (.named (i := 1) ⟨rfl, by decide, .inl (g_BadRow T)⟩ rfl rfl (fun a oe cls d pn hz hf => pss_one (ps_ret (pe_tup (pa_cons pe_str (pa_cons (pe_callB (call_reprK (K := K) rfl hg hr.units) (by rfl) (m_repr T) boot_repr (pa_cons (pe_xf (xls T (p := ("BadRow", ["value"])) (by decide)).xf ((xls T (p := ("BadRow", ["value"])) (by decide)).noat "value" (by decide)) hz hf (pv 1)) pa_nil)) pa_nil)))))
    (.named (i := 1) ⟨rfl, by decide, .inl (g_BadCharacters T)⟩ rfl rfl (fun a oe cls d pn hz hf => pss_one (ps_ret (pe_tup (pa_cons pe_str (pa_cons (pe_xf (xls T (p := ("BadCharacters", ["answer"])) (by decide)).xf ((xls T (p := ("BadCharacters", ["answer"])) (by decide)).noat "answer" (by decide)) hz hf (pv 1)) pa_nil)))))
    (.named (i := 1) ⟨rfl, by decide, .inl (g_BadType T)⟩ rfl rfl (fun a oe cls d pn hz hf => pss_never)
    (.named (i := 1) ⟨rfl, by decide, .inl (g_BadCurve T)⟩ rfl rfl (fun a oe cls d pn hz hf => pss_never)
    (.named (i := 1) ⟨rfl, by decide, .inl (g_NotBranched T)⟩ rfl rfl (fun a oe cls d pn hz hf => pss_never)
    (.named (i := 1) ⟨rfl, by decide, .inl (g_NotStraight T)⟩ rfl rfl (fun a oe cls d pn hz hf => pss_never)
    (.bare ⟨rfl, by decide, .inl (g_NotOf T)⟩ (fun a oe cls d pn hz hf => pss_never)
    (.bare ⟨rfl, by decide, .inl (g_SharesBranch T)⟩ (fun a oe cls d pn hz hf => pss_never)
    (.named (i := 1) ⟨rfl, by decide, .inl (g_TooMany T)⟩ rfl rfl (fun a oe cls d pn hz hf => pss_never) .nil)))))))))))), ?_⟩)⟩
  · obtain ⟨f, rfl, _⟩ := h; rfl
  · obtain ⟨f, rfl, th⟩ := h
    refine ⟨f, rfl, th.imp (fun _ _ z => z.elim) fun cls d H' hw => ?_⟩
    rcases hw with ⟨dd, x, dt, rfl, rfl, hdd, hx, h1, h2, h3, h4, hQ⟩ | ⟨dd, x, rfl, rfl, hdd, hQ⟩
    · refine ⟨false, exm T (q := ("BadRow", "BadItem", false)) (by decide), (fun h => Bool.noConfusion h), fun _ => ⟨false, exm T (q := ("BadRow", "BadNumber", false)) (by decide), (fun h => Bool.noConfusion h), fun _ => ⟨true, exm T (q := ("BadRow", "BadRow", true)) (by decide), fun _ a ha => ?_, (fun h => Bool.noConfusion h)⟩⟩⟩
      exact s_retP (ep_pair (d1 := .str "row") (d2 := .str dt.shown) ev_c (ev_repr (ev_xf (ev_var rfl) hdd) hx h1 h2 h3 h4) (.str _) (.str _)) fun v H2 e2 hv => hQ v H2 e2 hv
    · refine ⟨false, exm T (q := ("BadCharacters", "BadItem", false)) (by decide), (fun h => Bool.noConfusion h), fun _ => ⟨false, exm T (q := ("BadCharacters", "BadNumber", false)) (by decide), (fun h => Bool.noConfusion h), fun _ => ⟨false, exm T (q := ("BadCharacters", "BadRow", false)) (by decide), (fun h => Bool.noConfusion h), fun _ => ⟨true, exm T (q := ("BadCharacters", "BadCharacters", true)) (by decide), fun _ a ha => ?_, (fun h => Bool.noConfusion h)⟩⟩⟩⟩
      exact s_retU (eu_tup (ea2 ev_c (ev_xf (ev_var rfl) hdd)) (by show (2 : Nat) ≤ 100000; decide)) fun p H2 _ e2 h2 => hQ _ H2 e2 ⟨p, rfl, st_of h2⟩
end
end K41
set_option maxHeartbeats 0
/-! The plain law: the seventeen rows; what is due of the answer itself. -/
namespace K41
open PySem PySem.Spec PyProof.Rows L2 He TC Evl
def sk (i : Int) : Bool := decide (-1000 < i) && decide (i < 1000)
def Small3 (ps : PL) : Bool := ps.all fun p => sk p.1 && sk p.2
def genA (ns : List Int) : List Int := (List.range (ns.length - 1)).map fun k => aF ns (k + 1) * sS ns (k + 1)
def rowFacts (ns : List Int) : Bool := okRow ns && (posR ns && ((brOf (cabOf ns)).isNone && (decide (rowOf (cabOf ns) = ns) && (decide (genA ns = (genOf ns).drop 1) && Small3 (cabOf ns)))))
theorem rows_ok : (rows.all rowFacts) = true := by decide +kernel
structure RowOk (ns : List Int) : Prop where
  ok : okRow ns = true
  pos : posR ns = true
  br : brOf (cabOf ns) = none
  row : rowOf (cabOf ns) = ns
  gen : genA ns = (genOf ns).drop 1
  sm : Small3 (cabOf ns) = true
theorem row_ok {ns : List Int} (h : ns ∈ rows) : RowOk ns := by
  obtain ⟨h1, h⟩ := ba (List.all_eq_true.mp rows_ok ns h)
  obtain ⟨h2, h⟩ := ba h
  obtain ⟨h3, h⟩ := ba h
  obtain ⟨h4, h⟩ := ba h
  obtain ⟨h5, h6⟩ := ba h
  exact ⟨h1, h2, Option.isNone_iff_eq_none.mp h3, of_decide_eq_true h4, of_decide_eq_true h5, h6⟩
theorem RowOk.ans {ns : List Int} (h : RowOk ns) : ansOf (cabOf ns) = .cab (some ns) := by unfold ansOf; rw [h.br]; show An.cab (some (rowOf (cabOf ns))) = _; rw [h.row]
theorem small3_small {ps : PL} (h : Small3 ps = true) : Small ps = true := by
  refine List.all_eq_true.mpr fun p hp => ?_
  obtain ⟨h1, h2⟩ := ba (List.all_eq_true.mp h p hp)
  obtain ⟨a1, a2⟩ := ba h1
  obtain ⟨b1, b2⟩ := ba h2
  have a1 := of_decide_eq_true a1
  have a2 := of_decide_eq_true a2
  have b1 := of_decide_eq_true b1
  have b2 := of_decide_eq_true b2
  show (sm p.1 && sm p.2) = true
  have e1 : sm p.1 = true := by show (decide _ && decide _) = true; rw [decide_eq_true (by omega), decide_eq_true (by omega)]; rfl
  have e2 : sm p.2 = true := by show (decide _ && decide _) = true; rw [decide_eq_true (by omega), decide_eq_true (by omega)]; rfl
  rw [e1, e2]; rfl
/-- entries below 2000 -/
def sl (i : Int) : Bool := decide (-2000 < i) && decide (i < 2000)
def Small4 (ps : PL) : Bool := ps.all fun p => sl p.1 && sl p.2
theorem sl_of {i : Int} (h : -2000 < i ∧ i < 2000) : sl i = true := by show (decide _ && decide _) = true; rw [decide_eq_true h.1, decide_eq_true h.2]; rfl
theorem sl_iff {i : Int} (h : sl i = true) : -2000 < i ∧ i < 2000 := by
  obtain ⟨h1, h2⟩ := ba h
  exact ⟨of_decide_eq_true h1, of_decide_eq_true h2⟩
theorem sk_iff {i : Int} (h : sk i = true) : -1000 < i ∧ i < 1000 := by
  obtain ⟨h1, h2⟩ := ba h
  exact ⟨of_decide_eq_true h1, of_decide_eq_true h2⟩
theorem small3_4 {ps : PL} (h : Small3 ps = true) : Small4 ps = true := by
  refine List.all_eq_true.mpr fun p hp => ?_
  obtain ⟨h1, h2⟩ := ba (List.all_eq_true.mp h p hp)
  have := sk_iff h1
  have := sk_iff h2
  show (sl p.1 && sl p.2) = true
  rw [sl_of (by omega), sl_of (by omega)]; rfl
theorem small4_small {ps : PL} (h : Small4 ps = true) : Small ps = true := by
  refine List.all_eq_true.mpr fun p hp => ?_
  obtain ⟨h1, h2⟩ := ba (List.all_eq_true.mp h p hp)
  have := sl_iff h1
  have := sl_iff h2
  show (sm p.1 && sm p.2) = true
  have e1 : sm p.1 = true := by show (decide _ && decide _) = true; rw [decide_eq_true (by omega), decide_eq_true (by omega)]; rfl
  have e2 : sm p.2 = true := by show (decide _ && decide _) = true; rw [decide_eq_true (by omega), decide_eq_true (by omega)]; rfl
  rw [e1, e2]; rfl
theorem small3_at {ps : PL} (h : Small3 ps = true) (k : Nat) : (-1000 < (ps.getD k (0, 0)).1 ∧ (ps.getD k (0, 0)).1 < 1000) ∧ (-1000 < (ps.getD k (0, 0)).2 ∧ (ps.getD k (0, 0)).2 < 1000) := by
  rw [List.getD_eq_getElem?_getD]
  cases e : ps[k]? with
  | none => exact ⟨by decide, by decide⟩
  | some p =>
    obtain ⟨h1, h2⟩ := ba (List.all_eq_true.mp h p (List.mem_of_getElem? e))
    exact ⟨sk_iff h1, sk_iff h2⟩
theorem small4_set {ps : PL} {k : Nat} {q : Int × Int} (h : Small4 ps = true) (h1 : -2000 < q.1 ∧ q.1 < 2000) (h2 : -2000 < q.2 ∧ q.2 < 2000) : Small4 (ps.set k q) = true := by
  refine List.all_eq_true.mpr fun p hp => ?_
  rcases List.mem_or_eq_of_mem_set hp with z | z
  · exact List.all_eq_true.mp h p z
  · rw [z]
    show (sl q.1 && sl q.2) = true
    rw [sl_of h1, sl_of h2]; rfl
theorem small4_take {ps : PL} {q : Int × Int} {n : Nat} (h : Small4 ps = true) (h1 : -2000 < q.1 ∧ q.1 < 2000) (h2 : -2000 < q.2 ∧ q.2 < 2000) : Small4 ((ps ++ [q]).take n) = true := by
  refine List.all_eq_true.mpr fun p hp => ?_
  rcases List.mem_append.mp (List.mem_of_mem_take hp) with z | z
  · exact List.all_eq_true.mp h p z
  · rw [List.mem_singleton.mp z]
    show (sl q.1 && sl q.2) = true
    rw [sl_of h1, sl_of h2]; rfl
/-! the answer's own due -/
theorem fault_ans (ps : PL) : faultOf ps (ansOf ps) = .none := by
  unfold ansOf
  cases h : brOf ps with
  | none =>
    show faultOf ps (.cab (some (rowOf ps))) = .none
    unfold faultOf
    rw [h]
    simp
  | some p =>
    obtain ⟨s, i⟩ := p
    show faultOf ps (.no (some s) (.inl i)) = .none
    unfold faultOf
    rw [h]
    simp
theorem rowOf_len (ps : PL) : (rowOf ps).length = ps.length + 1 := foundL_len ps _
theorem okAn_ans {ps : PL} (h : ps.length ≤ 4) : okAn (ansOf ps) := by
  unfold ansOf
  cases hb : brOf ps with
  | none => show (rowOf ps).length ≤ 1000; rw [rowOf_len]; omega
  | some p => exact True.intro
/-- what is due is None or one text of few -/
theorem fault_cases (ps : PL) (an : An) : faultOf ps an = .none ∨ ∃ s ∈ ([ "none", "row", "cable", "why", "index", "answer"] : List Str), faultOf ps an = one s := by
  cases an with
  | cab r =>
    have e : faultOf ps (.cab r) = if (brOf ps).isSome = true then one "none" else if r = some (rowOf ps) then .none else one "row" := rfl
    rw [e]
    by_cases h1 : (brOf ps).isSome = true
    · rw [if_pos h1]; exact .inr ⟨"none", by decide, rfl⟩
    · rw [if_neg h1]
      by_cases h2 : r = some (rowOf ps)
      · rw [if_pos h2]; exact .inl rfl
      · rw [if_neg h2]; exact .inr ⟨"row", by decide, rfl⟩
  | no w i =>
    cases hb : brOf ps with
    | none =>
      have e : faultOf ps (.no w i) = one "cable" := by unfold faultOf; rw [hb]
      rw [e]; exact .inr ⟨"cable", by decide, rfl⟩
    | some p =>
      obtain ⟨s, j⟩ := p
      have e : faultOf ps (.no w i) = if w ≠ some s then one "why" else if i = .inl j then .none else one "index" := by unfold faultOf; rw [hb]
      rw [e]
      by_cases h1 : w ≠ some s
      · rw [if_pos h1]; exact .inr ⟨"why", by decide, rfl⟩
      · rw [if_neg h1]
        by_cases h2 : i = .inl j
        · rw [if_pos h2]; exact .inl rfl
        · rw [if_neg h2]; exact .inr ⟨"index", by decide, rfl⟩
  | flat b => exact .inr ⟨"answer", by decide, rfl⟩
theorem fault_shaped (ps : PL) (an : An) : SeqAt.shaped (faultOf ps an) = true ∧ PyData.eqv (faultOf ps an) (faultOf ps an) = true := by
  rcases fault_cases ps an with h | ⟨s, hs, h⟩
  · rw [h]; exact ⟨by decide, by simp [PyData.eqv]⟩
  · rw [h]
    refine ⟨?_, by simp [one, PyData.eqv, PyData.eqvAll]⟩
    have key : ∀ s ∈ ([ "none", "row", "cable", "why", "index", "answer"] : List Str), SeqAt.shaped (one s) = true := by decide +kernel
    exact key s hs
end K41
set_option maxHeartbeats 0
/-! Readings with the pen. -/
namespace K41
open PySem PySem.Spec PyProof.Rows L2 He TC Evl LamX
/-- the law's heap: the pen at p, the table at Pt -/
structure LS (Pt p l : Addr) (n : Nat) (H : Hp) : Prop where
  pen : Pen l n H p
  tab : H Pt = some (.tbl #[])
section
variable {Pt p l : Addr} {n m : Nat} {H H' : Hp} {K : PySem.W.Frag}
theorem LS.ne (h : LS Pt p l n H) : Pt ≠ p := fun z => by
  obtain ⟨kvs, hk⟩ := h.pen.isD
  have t := h.tab
  rw [z, hk] at t
  cases t
theorem LS.ex (e : Ex H H') (h : LS Pt p l n H) : LS Pt p l n H' := ⟨h.pen.ex e, e _ _ h.tab⟩
theorem LS.x (x : ExX p H H') (pn : Pen l m H' p) (h : LS Pt p l n H) : LS Pt p l m H' := ⟨pn, x _ _ h.ne h.tab⟩
theorem LS.mono (h : LS Pt p l n H) (k : n ≤ m) : LS Pt p l m H := ⟨h.pen.mono k, h.tab⟩
theorem LS.upd {c : Addr} {xs : List V} {o : HO} (h : LS Pt p l n H) (hc : H c = some (.lst xs)) (nl : l ≠ c) : LS Pt p l n (L2.upd H c o) := by
  have np : p ≠ c := fun z => by
    obtain ⟨kvs, hk⟩ := h.pen.isD
    rw [z, hc] at hk; cases hk
  have nt : Pt ≠ c := fun z => by have t := h.tab; rw [z, hc] at t; cases t
  obtain ⟨ns, at_, d, c', f, hp⟩ := h.pen
  exact ⟨⟨ns, at_, d, c', f, by rw [upd_ne np]; exact hp.dk, by rw [upd_ne nl]; exact hp.cl, hp.ha, hp.hd, hp.hc, hp.hf⟩, by rw [upd_ne nt]; exact h.tab⟩
theorem LS.nl {c : Addr} (h : LS Pt p l n H) (hc : H c = none) : l ≠ c := fun z => by
  obtain ⟨ns, at_, d, c', f, hp⟩ := h.pen
  have t := hp.cl
  rw [z, hc] at t; cases t
theorem LS.dp (h : LS Pt p l n H) (x : ExX p H H') {v : V} {d : PyData} (hd : Dp K H v d) : Dp K H' v d := by
  obtain ⟨kvs, hk⟩ := h.pen.isD
  exact Dp.exN hk True.intro x hd
theorem LS.dpA (h : LS Pt p l n H) (x : ExX p H H') {v : List V} {d : List PyData} (hd : DpAll K H v d) : DpAll K H' v d := by
  obtain ⟨kvs, hk⟩ := h.pen.isD
  exact DpAll.exN hk True.intro x hd
theorem LS.lst (h : LS Pt p l n H) (x : ExX p H H') {c : Addr} {xs : List V} (hl : H c = some (.lst xs)) : H' c = some (.lst xs) := by
  obtain ⟨kvs, hk⟩ := h.pen.isD
  exact x _ _ (fun z => by rw [z, hk] at hl; cases hl) hl
theorem LS.ins (h : LS Pt p l n H) (x : ExX p H H') {a C dx : Addr} {fs : List (Str × V)} (hl : H a = some (.ins C dx fs)) : H' a = some (.ins C dx fs) := by
  obtain ⟨kvs, hk⟩ := h.pen.isD
  exact x _ _ (fun z => by rw [z, hk] at hl; cases hl) hl
theorem LS.an (h : LS Pt p l n H) (x : ExX p H H') {v : V} : ∀ {a : An}, AnA K v H a → AnA K v H' a
  | .cab r, ⟨y, dx, u, h1, h2, h3⟩ => ⟨y, dx, u, h1, h.ins x h2, h.dp x h3⟩
  | .no w i, ⟨y, dx, v1, v2, h1, h2, h3, h4⟩ => ⟨y, dx, v1, v2, h1, h.ins x h2, h.dp x h3, h.dp x h4⟩
  | .flat b, h1 => h.dp (d := flD b) x h1
end
section
variable {K : PySem.W.Frag} {σ : L2.St} {H : Hp} {ta : TA} {tb te : TE} {D : Ends} {tu tz : TS} {sp sp1 sp2 : Sp} {vs : List V} {E E1 E2 : XK} {r : R2}
theorem q_asgCC {i : Nat} (h : EvA ta σ H vs) (k : ∀ H1, Ex H H1 → sp1 vs H1 (fun v H2 => sp2 [v] H2 (fun u H3 => tz D (σ.set i (some u)) H3) E2) E1) : tSeq (tAsg (tCall sp2 [] E2 (tCons (tCall sp1 [] E1 ta) tNil)) (gName i)) tz D σ H :=
  h H (Ex.refl H) _ fun H1 e => by rw [List.append_nil]; exact k H1 e
theorem q_ifCC (h : EvA ta σ H vs) (k : ∀ H1, Ex H H1 → sp1 vs H1 (fun v H2 => sp2 [v] H2 (fun u H3 => tb σ H3 fun y H4 => r u y H4 fun z H5 => ∃ b, z = .bl b ∧ if b = true then tu { D with nx := tz D } σ H5 else tz D σ H5) E2) E1) :
    tSeq (tIfS (tTest (tOp r (tCall sp2 [] E2 (tCons (tCall sp1 [] E1 ta) tNil)) tb)) tu tNext) tz D σ H :=
  h H (Ex.refl H) _ fun H1 e => by rw [List.append_nil]; exact k H1 e
end
section
variable {w : World} {h0 base : Heap} {K : PySem.W.Frag} {mg : Str → Option Value} {σ : L2.St} {H : Hp}
theorem rd_cab (T : Wk h0 K mg base) {a b dx dy : Addr} {v u : V} {d e : PyData} {neg : Bool} {Q : VK} (ha : H a = some (.ins (ga K "CableOf") dx [("row", v)])) (hb : H b = some (.ins (ga K "CableOf") dy [("row", u)])) (p1 : Dp K H v d) (p2 : Dp K H u e) (s1 : SeqAt.shaped d = true) (s2 : SeqAt.shaped e = true)
    (q : ∀ H', Ex H H' → Q (.bl (if neg = true then !PyData.eqv d e else PyData.eqv d e)) H') : rOwn K (ga K "CableOf") (sp_CableOf_eq K) E0 neg (.ref a) (.ref b) H Q :=
  ⟨a, b, dx, dy, _, _, _, rfl, rfl, ha, hb, c_CableOf T, nfst T (q := ("CableOf", "CableOf")) (by decide), ⟨a, b, dx, dy, _, _, _, _, rfl, ha, hb, .inl ⟨rfl, v, u, d, e, rfl, rfl, p1, p2, s1, s2, rfl⟩, fun H' e' => ⟨_, rfl, q H' e'⟩⟩⟩
theorem rd_cabno (T : Wk h0 K mg base) {a b dx dy : Addr} {v : V} {gs : List (Str × V)} {neg : Bool} {Q : VK} (ha : H a = some (.ins (ga K "CableOf") dx [("row", v)])) (hb : H b = some (.ins (ga K "NoCable") dy gs))
    (q : ∀ H', Ex H H' → Q (.bl (if neg = true then !false else false)) H') : rOwn K (ga K "CableOf") (sp_CableOf_eq K) E0 neg (.ref a) (.ref b) H Q :=
  ⟨a, b, dx, dy, _, _, _, rfl, rfl, ha, hb, c_NoCable T, nfst T (q := ("CableOf", "NoCable")) (by decide), ⟨a, b, dx, dy, _, _, _, _, rfl, ha, hb, .inr ⟨rfl, rfl⟩, fun H' e' => ⟨_, rfl, q H' e'⟩⟩⟩
theorem rd_no (T : Wk h0 K mg base) {a b dx dy : Addr} {v1 v2 u1 u2 : V} {d1 d2 e1 e2 : PyData} {neg : Bool} {Q : VK} (ha : H a = some (.ins (ga K "NoCable") dx [("why", v1), ("index", v2)])) (hb : H b = some (.ins (ga K "NoCable") dy [("why", u1), ("index", u2)])) (p1 : Dp K H v1 d1) (p2 : Dp K H v2 d2) (p3 : Dp K H u1 e1) (p4 : Dp K H u2 e2)
    (s1 : SeqAt.shaped (.tuple [d1, d2]) = true) (s2 : SeqAt.shaped (.tuple [e1, e2]) = true) (q : ∀ H', Ex H H' → Q (.bl (if neg = true then !PyData.eqv (.tuple [d1, d2]) (.tuple [e1, e2]) else PyData.eqv (.tuple [d1, d2]) (.tuple [e1, e2]))) H') : rOwn K (ga K "NoCable") (sp_No_eq K (ga K "NoCable")) E0 neg (.ref a) (.ref b) H Q :=
  ⟨a, b, dx, dy, _, _, _, rfl, rfl, ha, hb, c_NoCable T, nfst T (q := ("NoCable", "NoCable")) (by decide), ⟨a, b, dx, dy, v1, v2, u1, u2, d1, d2, e1, e2, rfl, ha, hb, p1, p2, p3, p4, s1, s2, fun H' e' => ⟨_, rfl, q H' e'⟩⟩⟩
theorem Cw.ex {f : Nat → Bool} {v : Nat → V} {Dl : Addr} {i : Nat} {H1 H' H'' : Hp} (e : Ex H' H'') (p : Cw H1 f v Dl i H') : Cw H1 f v Dl i H'' := ⟨p.1, p.2.1.trans e, e _ _ p.2.2⟩
theorem el_lcEn {b : Bool} {a : Addr} {xs : List V} {ta : TA} {te : TE} {i j : Nat} {vs : List Nat} (v : Nat → V) (h : EvA ta σ H [.ref a]) (hx : SqB K H b a xs) (hz : xs.length ≤ 40000) (hw : ∀ x y, wipe (((wipe σ vs).set i (some x)).set j (some y)) vs = wipe σ vs)
    (he : ∀ (k : Nat) x H1, Ex H H1 → xs[k]? = some x → Ev te (((wipe σ vs).set i (some (.int (k : Nat)))).set j (some x)) H1 (v k)) : EvL (tLc (iEnumA K ta) (gTup K 2 (gCons (gName i) (gCons (gName j) gNil))) tYes te vs) σ H ((List.range xs.length).map v) := fun H0 e Q q =>
  h H0 e _ fun H1 e1 => ⟨b, a, xs, rfl, hx.ex (e.trans e1), fun Dl hD => lc_it walk_enumB (Cw H1 (fun _ => true) v Dl) ⟨hD, Ex.new hD, upd_same⟩ (fun k H' _ p => hx.ex ((e.trans e1).trans p.2.1)) (fun k x H' H'' hk p y => by
    obtain ⟨T, x1, x2, rfl, hT, rfl, ez1, ez2⟩ := y
    cases ez1
    exact ⟨T, _, rfl, st_of upd_same, rfl, _, _, rfl, _, _, rfl, rfl, hw _ _, cw_turn (K41.Cw.ex (Ex.new hT) p) (by omega) (fun H2 _ Q q => q H2 (Ex.refl H2)) (fun _ => he k x2 H1 (e.trans e1) ez2)⟩)
    (fun H' p => q Dl H' (fresh_back e1 p.1) (e1.trans p.2.1) (by have := p.2.2; rw [given_all] at this; exact this))⟩
theorem el_slN {te : TE} {tl th : TO} {xs : List V} {lo hi : Option Int} (h : EvL te σ H xs) (h1 : EvO tl σ H lo) (h2 : EvO th σ H hi) : EvL (tSl (rSlL K) te tl th) σ H (cutV xs lo hi) := fun H1 e Q q =>
  h H1 e _ fun a H2 ha e2 h3 => h1 H2 (e.trans e2) _ fun H3 e3 => h2 H3 ((e.trans e2).trans e3) _ fun H4 e4 => ⟨a, xs, rfl, sq_of (e4 _ _ (e3 _ _ h3)), fun p hp => q p _ (fresh_back ((e2.trans e3).trans e4) hp) (((e2.trans e3).trans e4).trans (Ex.new hp)) upd_same⟩
theorem cut_drop1 {xs : List V} : cutV xs (some 1) none = xs.drop 1 := by
  unfold cutV
  have e1 : HT.sIx xs.length 0 (some 1) = min 1 xs.length := HT.sIx_nat _ _ 1
  rw [HT.sIx_none, e1]
  by_cases h : 1 ≤ xs.length
  · rw [Nat.min_eq_left h, List.take_of_length_le (by rw [List.length_drop]; exact Nat.le_refl _)]
  · rw [Nat.min_eq_right (by omega), List.drop_of_length_le (Nat.le_refl _), List.drop_of_length_le (by omega)]
    simp
theorem cut_take4 {xs : List V} : cutV xs none (some 4) = xs.take 4 := by
  unfold cutV
  have e1 : HT.sIx xs.length xs.length (some 4) = min 4 xs.length := HT.sIx_nat _ _ 4
  rw [HT.sIx_none, e1, List.drop_zero, Nat.sub_zero]
  by_cases h : 4 ≤ xs.length
  · rw [Nat.min_eq_left h]
  · rw [Nat.min_eq_right (by omega), List.take_of_length_le (Nat.le_refl _), List.take_of_length_le (by omega)]
/-- x + pick(pen, [..]), x a number -/
theorem rd_addpick {p l Pt : Addr} {n : Nat} {ds : List Int} {tA tP tL : TE} {x : Int} {Q : VK} (L : LS Pt p l n H) (hn : n ≤ 100000) (h0 : 0 < ds.length) (h1 : ds.length ≤ 1000) (hA : Ev tA σ H (.int x)) (hP : Ev tP σ H (.ref p)) (hL : EvL tL σ H (ds.map V.int))
    (k : ∀ d H', d ∈ ds → ExX p H H' → Pen l (n + 1) H' p → Q (.int (x + d)) H') : tOp (rI0 fun i j => .int (i + j)) tA (tCall (sp_law_pick K) [] E0 (tCons tP (tCons tL tNil))) σ H Q :=
  hA H (Ex.refl _) _ fun H1 e1 => hP H1 e1 _ fun H2 e2 => hL H2 (e1.trans e2) _ fun a H3 _ e3 ha => ⟨p, l, n, false, a, _, rfl, L.pen.ex ((e1.trans e2).trans e3), hn, sq_of ha, by rw [List.length_map]; exact h0, by rw [List.length_map]; exact h1, fun j v H4 hv x4 pn => by
    rw [List.getElem?_map] at hv
    cases hd : ds[j]? with
    | none => rw [hd] at hv; cases hv
    | some d =>
      rw [hd] at hv
      cases hv
      exact ⟨x, d, rfl, rfl, k d H4 (List.mem_of_getElem? hd) ((ExX.of ((e1.trans e2).trans e3)).trans x4) pn⟩⟩
/-- x + draw(pen, m) -/
theorem rd_adddraw {p l Pt : Addr} {n : Nat} {m x : Int} {tA tP tM : TE} {Q : VK} (L : LS Pt p l n H) (hn : n ≤ 100000) (h0 : 0 < m) (h1 : m < 2 ^ 20) (hA : Ev tA σ H (.int x)) (hP : Ev tP σ H (.ref p)) (hM : Ev tM σ H (.int m))
    (k : ∀ d H', 0 ≤ d → d < m → ExX p H H' → Pen l (n + 1) H' p → Q (.int (x + d)) H') : tOp (rI0 fun i j => .int (i + j)) tA (tCall sp_law_draw [] E0 (tCons tP (tCons tM tNil))) σ H Q :=
  hA H (Ex.refl _) _ fun H1 e1 => hP H1 e1 _ fun H2 e2 => hM H2 (e1.trans e2) _ fun H3 e3 => ⟨p, l, m, n, rfl, h0, h1, L.pen.ex ((e1.trans e2).trans e3), hn, fun d H4 d0 d1 x4 pn => ⟨x, d, rfl, rfl, k d H4 d0 d1 ((ExX.of ((e1.trans e2).trans e3)).trans x4) pn⟩⟩
end
end K41
set_option maxHeartbeats 0
/-! Readings of answers. -/
namespace K41
open PySem PySem.Spec PyProof.Rows L2 He TC Evl LamX
theorem brGo_str : ∀ (ps : PL) (l : Option Int) (k : Nat) (s : Str) (i : Int), brGo l k ps = some (s, i) → PyData.strOk s = true
  | [], _, _, _, _, h => by cases h
  | (p, a) :: r, l, k, s, i, h => by
    have key : PyData.strOk "p" = true ∧ PyData.strOk "share" = true ∧ PyData.strOk "less" = true := by decide +kernel
    unfold brGo at h
    by_cases h1 : p < 2
    · rw [if_pos h1] at h; cases h; exact key.1
    · rw [if_neg h1] at h
      by_cases h2 : ((Nat.gcd p.natAbs a.natAbs : Nat) : Int) ≠ 1
      · rw [if_pos h2] at h; cases h; exact key.2.1
      · rw [if_neg h2] at h
        by_cases h3 : a ≤ thr l p
        · rw [if_pos h3] at h; cases h; exact key.2.2
        · rw [if_neg h3] at h; exact brGo_str r _ _ s i h
theorem shaped_si {s : Str} {i : Int} (h : PyData.strOk s = true) : SeqAt.shaped (.tuple [.str s, .int i]) = true := by
  show (PyData.canLay0 (.tuple [.str s, .int i]) && decide (PyData.depth (.tuple [.str s, .int i]) ≤ 64)) = true
  simp [PyData.canLay0, PyData.canLayAll0, PyData.depth, PyData.depthAll, h]
def AnyA (K : PySem.W.Frag) (v : V) (H : Hp) : Prop := ∃ an, AnA K v H an ∧ okAn an
theorem monA {K : PySem.W.Frag} : MonP (AnyA K) := fun _ _ _ e ⟨an, h, o⟩ => ⟨an, AnA.ex e h, o⟩
section
variable {w : World} {h0 base : Heap} {K : PySem.W.Frag} {mg : Str → Option Value} {σ : L2.St} {H : Hp} {ta tb te : TE}
/-- answer == settle_cable(list(cable)) -/
theorem et_eqAn (T : Wk h0 K mg base) {v : V} {ps : PL} (ha : Ev ta σ H v) (hv : AnA K v H (ansOf ps)) (hb : EvP tb σ H (fun u H1 => AnA K u H1 (ansOf ps))) :
    EvT (tTest (tOp (fun x y H Q => rOwn K (ga K "CableOf") (sp_CableOf_eq K) E0 false x y H Q ∨ rOwn K (ga K "NoCable") (sp_No_eq K (ga K "NoCable")) E0 false x y H Q) ta tb)) σ H true := fun H1 e Q q =>
  ha H1 e _ fun H2 e2 => hb H2 (e.trans e2) _ fun y H3 e3 hy => by
    have hv3 := AnA.ex ((e.trans e2).trans e3) hv
    cases hc : brOf ps with
    | none =>
      have ea : ansOf ps = .cab (some (rowOf ps)) := by unfold ansOf; rw [hc]
      rw [ea] at hv3 hy
      obtain ⟨x1, dx, u, rfl, h1, h2⟩ := hv3
      obtain ⟨y1, dy, u', rfl, h3, h4⟩ := hy
      refine .inl (rd_cab T h1 h3 h2 h4 (shaped_ints (b := true) (ns := rowOf ps)) (shaped_ints (b := true) (ns := rowOf ps)) fun H4 e4 => ⟨true, congrArg V.bl ?_, q H4 ((e2.trans e3).trans e4)⟩)
      show PyData.eqv (seqD true ((rowOf ps).map PyData.int)) (seqD true ((rowOf ps).map PyData.int)) = true
      rw [eqv_ints, decide_eq_true rfl]
    | some p =>
      obtain ⟨s, i⟩ := p
      have ea : ansOf ps = .no (some s) (.inl i) := by unfold ansOf; rw [hc]
      rw [ea] at hv3 hy
      have hs := brGo_str ps none 0 s i hc
      obtain ⟨x1, dx, v1, v2, rfl, h1, h2, h3⟩ := hv3
      obtain ⟨y1, dy, u1, u2, rfl, h4, h5, h6⟩ := hy
      refine .inr (rd_no T h1 h4 h2 h3 h5 h6 (shaped_si hs) (shaped_si hs) fun H4 e4 => ⟨true, congrArg V.bl ?_, q H4 ((e2.trans e3).trans e4)⟩)
      show PyData.eqv (.tuple [.str s, .int i]) (.tuple [.str s, .int i]) = true
      simp [PyData.eqv, PyData.eqvAll]
/-- isinstance(answer.row, tuple), the answer a cable -/
theorem ev_rowT (T : Wk h0 K mg base) {v : V} {ps : PL} (h : Ev te σ H v) (hv : AnA K v H (ansOf ps)) (hc : isCab (ansOf ps) = true) : Ev (tCB (rIsi K) (tCons (tFld K te "row") (tCons (tC (.ty "tuple")) tNil))) σ H (.bl true) := by
  cases hb : brOf ps with
  | some p =>
    obtain ⟨s, i⟩ := p
    have ea : ansOf ps = .no (some s) (.inl i) := by unfold ansOf; rw [hb]
    rw [ea] at hc
    cases hc
  | none =>
    have ea : ansOf ps = .cab (some (rowOf ps)) := by unfold ansOf; rw [hb]
    rw [ea] at hv
    obtain ⟨x1, dx, u, rfl, h1, h2⟩ := hv
    exact ev_isi (ev_fld h h1 (c_CableOf T) (n_CableOf_row T) rfl) (.ty _) (Dp.tyX h2) (kit_ty (a := "tuple") (b := "tuple") (r := true) (by decide +kernel))
/-- the made ones -/
theorem ea_cabP {E : XK} {r : Option (List Int)} {d : PyData} (h : EvP te σ H (fun v H1 => Dp K H1 v d)) (e : tupD d = rD r) (o : okAn (.cab r)) : EvP (tMake (ga K "CableOf") (sp_CableOf_init K) [] E (tCons te tNil)) σ H (AnyA K) :=
  (ep_makeP (Pa := fun x H' => ∃ dx v', H' x = some (.ins (ga K "CableOf") dx [("row", v')]) ∧ Dp K H' v' (tupD d)) (eap1 h) fun vs H1 e1 ⟨v, hv, hd⟩ => by
    subst hv
    exact mk_CableOf hd).imp fun v H1 _ ⟨x, ev, dx, u, h1, h2⟩ => ⟨.cab r, ⟨x, dx, u, ev, h1, e ▸ h2⟩, o⟩
theorem ea_no {E : XK} {v1 v2 : V} {s : Option Str} {i : Sum Int Bool} (h1 : Ev ta σ H v1) (h2 : Ev tb σ H v2) (p1 : Dp K H v1 (wD s)) (p2 : Dp K H v2 (iD i)) : EvP (tMake (ga K "NoCable") (sp_No_init (ga K "NoCable")) [] E (tCons ta (tCons tb tNil))) σ H (AnyA K) :=
  (ep_make (ea2 h1 h2) mk_No).imp fun v H1 e ⟨x, ev, dx, h⟩ => ⟨.no s i, ⟨x, dx, v1, v2, ev, h, Dp.ex e p1, Dp.ex e p2⟩, True.intro⟩
theorem ea_non : EvP (tC .non) σ H (AnyA K) := (Ev.p ev_c).imp fun v H1 _ ev => ⟨.flat true, ev ▸ Dp.non, True.intro⟩
theorem ea_five : EvP (tC (.int 5)) σ H (AnyA K) := (Ev.p ev_c).imp fun v H1 _ ev => ⟨.flat false, ev ▸ Dp.int 5, True.intro⟩
/-- a list of answers -/
def SomeA (K : PySem.W.Frag) (N : Nat) (v : V) (H : Hp) : Prop := ∃ a vs, v = .ref a ∧ H a = some (.lst vs) ∧ 0 < vs.length ∧ vs.length ≤ N ∧ ∀ x ∈ vs, AnyA K x H
theorem allA {Ps : List (V → Hp → Prop)} {vs : List V} (h : AllP Ps vs H) (hp : ∀ P ∈ Ps, P = AnyA K) : ∀ x ∈ vs, AnyA K x H := fun x hx => by
  obtain ⟨i, hi, e⟩ := List.mem_iff_getElem.mp hx
  have hi2 : i < Ps.length := by rw [← h.1]; exact hi
  have h2 := h.2 i x (Ps[i]) (by rw [List.getElem?_eq_getElem hi, e]) (List.getElem?_eq_getElem hi2)
  rw [hp _ (List.getElem_mem hi2)] at h2
  exact h2
theorem ep_cat2 {l : Addr} {xs : List V} {R : List V → Hp → Prop} (ha : Ev ta σ H (.ref l)) (hl : H l = some (.lst xs)) (hb : EvP tb σ H (fun v H1 => ∃ a vs, v = .ref a ∧ H1 a = some (.lst vs) ∧ R vs H1)) (hz : ∀ vs H1, R vs H1 → xs.length + vs.length ≤ 100000) (m : ∀ vs H1 H2, Ex H1 H2 → R vs H1 → R vs H2) : EvP (tOp rCat ta tb) σ H (fun v H1 => ∃ a vs, v = .ref a ∧ H1 a = some (.lst (xs ++ vs)) ∧ R vs H1) := fun H1 e Q q =>
  ha H1 e _ fun H2 e2 => hb H2 (e.trans e2) _ fun v H3 e3 ⟨p, vs, ev, hp, hR⟩ => by
    subst ev
    exact ⟨l, p, xs, vs, rfl, rfl, e3 l _ (e2 l _ (e l _ hl)), hp, sz_of (hz vs H3 hR), fun r hr => q _ _ ((e2.trans e3).trans (Ex.new hr)) ⟨r, vs, rfl, upd_same, m _ _ _ (Ex.new hr) hR⟩⟩
end
end K41
set_option maxHeartbeats 0
/-! Readings of the law's last lines. -/
namespace K41
open PySem PySem.Spec PyProof.Rows L2 He TC Evl LamX
def CabW (K : PySem.W.Frag) (d : PyData) (v : V) (H : Hp) : Prop := ∃ x dx u, v = .ref x ∧ H x = some (.ins (ga K "CableOf") dx [("row", u)]) ∧ Dp K H u d
theorem monCab {K : PySem.W.Frag} {d : PyData} : MonP (CabW K d) := fun _ _ _ e ⟨x, dx, u, h1, h2, h3⟩ => ⟨x, dx, u, h1, e _ _ h2, Dp.ex e h3⟩
def NoW (K : PySem.W.Frag) (d1 d2 : PyData) (v : V) (H : Hp) : Prop := ∃ x dx v1 v2, v = .ref x ∧ H x = some (.ins (ga K "NoCable") dx [("why", v1), ("index", v2)]) ∧ Dp K H v1 d1 ∧ Dp K H v2 d2
theorem monNo {K : PySem.W.Frag} {d1 d2 : PyData} : MonP (NoW K d1 d2) := fun _ _ _ e ⟨x, dx, v1, v2, h1, h2, h3, h4⟩ => ⟨x, dx, v1, v2, h1, e _ _ h2, Dp.ex e h3, Dp.ex e h4⟩
section
variable {w : World} {h0 base : Heap} {K : PySem.W.Frag} {mg : Str → Option Value} {σ : L2.St} {H : Hp} {ta tb te : TE}
theorem ep_cabW {E : XK} {d : PyData} (h : EvP te σ H (fun v H1 => Dp K H1 v d)) : EvP (tMake (ga K "CableOf") (sp_CableOf_init K) [] E (tCons te tNil)) σ H (CabW K (tupD d)) :=
  (ep_makeP (Pa := fun x H' => ∃ dx v', H' x = some (.ins (ga K "CableOf") dx [("row", v')]) ∧ Dp K H' v' (tupD d)) (eap1 h) fun vs H1 e1 ⟨v, hv, hd⟩ => by
    subst hv
    exact mk_CableOf hd).imp fun v H1 _ ⟨x, ev, dx, u, h1, h2⟩ => ⟨x, dx, u, ev, h1, h2⟩
theorem ep_noW {E : XK} {v1 v2 : V} {d1 d2 : PyData} (h1 : Ev ta σ H v1) (h2 : Ev tb σ H v2) (p1 : Dp K H v1 d1) (p2 : Dp K H v2 d2) : EvP (tMake (ga K "NoCable") (sp_No_init (ga K "NoCable")) [] E (tCons ta (tCons tb tNil))) σ H (NoW K d1 d2) :=
  (ep_make (ea2 h1 h2) mk_No).imp fun v H1 e ⟨x, ev, dx, h⟩ => ⟨x, dx, v1, v2, ev, h, Dp.ex e p1, Dp.ex e p2⟩
theorem et_cabs (T : Wk h0 K mg base) {neg : Bool} {d e : PyData} (ha : EvP ta σ H (CabW K d)) (hb : EvP tb σ H (CabW K e)) (s1 : SeqAt.shaped d = true) (s2 : SeqAt.shaped e = true) : EvT (tTest (tOp (rOwn K (ga K "CableOf") (sp_CableOf_eq K) E0 neg) ta tb)) σ H (if neg = true then !PyData.eqv d e else PyData.eqv d e) := fun H1 ex Q q =>
  ha H1 ex _ fun x H2 e2 hx => hb H2 (ex.trans e2) _ fun y H3 e3 hy => by
    obtain ⟨x1, dx, u, rfl, h1, h2⟩ := monCab _ _ _ e3 hx
    obtain ⟨y1, dy, u', rfl, h3, h4⟩ := hy
    exact rd_cab T h1 h3 h2 h4 s1 s2 fun H4 e4 => ⟨_, rfl, q H4 ((e2.trans e3).trans e4)⟩
theorem et_cabno (T : Wk h0 K mg base) {d d1 d2 : PyData} (ha : EvP ta σ H (CabW K d)) (hb : EvP tb σ H (NoW K d1 d2)) : EvT (tTest (tOp (rOwn K (ga K "CableOf") (sp_CableOf_eq K) E0 false) ta tb)) σ H false := fun H1 ex Q q =>
  ha H1 ex _ fun x H2 e2 hx => hb H2 (ex.trans e2) _ fun y H3 e3 hy => by
    obtain ⟨x1, dx, u, rfl, h1, h2⟩ := monCab _ _ _ e3 hx
    obtain ⟨y1, dy, u1, u2, rfl, h3, _⟩ := hy
    exact rd_cabno T h1 h3 fun H4 e4 => ⟨_, rfl, q H4 ((e2.trans e3).trans e4)⟩
theorem et_nos (T : Wk h0 K mg base) {neg : Bool} {d1 d2 e1 e2 : PyData} (ha : EvP ta σ H (NoW K d1 d2)) (hb : EvP tb σ H (NoW K e1 e2)) (s1 : SeqAt.shaped (.tuple [d1, d2]) = true) (s2 : SeqAt.shaped (.tuple [e1, e2]) = true) : EvT (tTest (tOp (rOwn K (ga K "NoCable") (sp_No_eq K (ga K "NoCable")) E0 neg) ta tb)) σ H (if neg = true then !PyData.eqv (.tuple [d1, d2]) (.tuple [e1, e2]) else PyData.eqv (.tuple [d1, d2]) (.tuple [e1, e2])) := fun H1 ex Q q =>
  ha H1 ex _ fun x H2 e2' hx => hb H2 (ex.trans e2') _ fun y H3 e3 hy => by
    obtain ⟨x1, dx, v1, v2, rfl, h1, h2, h3⟩ := monNo _ _ _ e3 hx
    obtain ⟨y1, dy, u1, u2, rfl, h4, h5, h6⟩ := hy
    exact rd_no T h1 h4 h2 h3 h5 h6 s1 s2 fun H4 e4 => ⟨_, rfl, q H4 ((e2'.trans e3).trans e4)⟩
/-- pick(pen, a list of data) -/
theorem rd_pick {p l Pt : Addr} {n : Nat} {ds : List PyData} {tP tL : TE} {Q : VK} (L : LS Pt p l n H) (hn : n ≤ 100000) (h0 : 0 < ds.length) (h1 : ds.length ≤ 1000) (hP : Ev tP σ H (.ref p)) (hL : EvP tL σ H (fun v H1 => Dp K H1 v (.list ds)))
    (k : ∀ d v H', d ∈ ds → ExX p H H' → Pen l (n + 1) H' p → Dp K H' v d → Q v H') : tCall (sp_law_pick K) [] E0 (tCons tP (tCons tL tNil)) σ H Q :=
  hP H (Ex.refl _) _ fun H2 e2 => hL H2 e2 _ fun v H3 e3 hv => by
    obtain ⟨a, xs, rfl, sq, da⟩ := Dp.seq_inv (b := false) hv
    have hl := DpAll.length da
    have L3 := L.ex (e2.trans e3)
    exact ⟨p, l, n, false, a, xs, rfl, L3.pen, hn, sq, by omega, by omega, fun j v H4 hv x4 pn => by
      obtain ⟨d, h2, h3⟩ := DpAll.get da hv
      exact k d v H4 (List.mem_of_getElem? h2) ((ExX.of (e2.trans e3)).trans x4) pn (L3.dp x4 h3)⟩
/-- a lambda that reads one cell -/
theorem lam_el {B : Heap} {X : Cx} {σ : L2.St} (hB : BaseOk X σ B) {i k : Nat} {x : Str} {v : V} (hN : X.N[i]? = some x) (hs : σ[i]? = some (some v)) (hc : X.env.scope.names.lookup x = some .cell) {q : Str} {params : Arguments} {body : Expr} {scope : Scope} {f c : Addr}
    (hcl : cloFrom X.env.cells scope.names [] = [(x, (X.env.cells.lookup x).getD 0)]) (hx : ∀ y, scope.names.lookup y = some .free → y = x) (L : LamP scope) (hf : H f = some (LamO f q params body scope (cloFrom X.env.cells scope.names []) c)) (hco : H c = some (CodeO c q))
    (hbind : ∀ (cl : List (Str × Addr)) (pm cv ctv : Value), bindArgs (PySem.W.kla_fn "<lambda>" q params body scope cl pm cv ctv) ⟨[], []⟩ = pure []) {Q : VK} {E : XK} {t : TE}
    (hbody : ∀ (cl : List (Str × Addr)) (A : Around) (outer : List Env) (s : Shared), Room k (A.deeper (PySem.W.envX q scope s.heap.objs.size f (.ref c) cl)) → A.guards = some [] → PE (lamC PP w K mg B [x] q scope f c cl A outer s H E) body t) (ht : t [some v] H Q) : Thunk PP w K mg B (k + 1) f H Q E := by
  obtain ⟨c0, u, h1, h2, h3⟩ := hB.val i x v hN hs hc
  rw [hcl, h1] at hf
  exact lam_thunk L (cellsIn1 h2 h3 hx) hf hco (hbind _) (hbody _) ht
theorem lookF {l : List (Str × NameKind)} {y : Str} (h : l.lookup y = some .free) : ∃ p ∈ l, p.1 = y ∧ p.2 = .free := ⟨(y, .free), PySem.mem_of_lookup h, rfl, rfl⟩
end
/-! the data of the last lines -/
def bads : List PyData := [.none, .int 3, .str "x", .list [.tuple [.int 2, .int 3], .none], .list [.tuple [.int 2, .int 3, .int 4]], .list [.list [.int 2, .int 3]], .list [.tuple [.int 2, .bool true]], .list (List.replicate 5 (.tuple [.int 2, .int 3]))]
def odds : List PyData := [.none, .int 3, .str "x", .list [.none]]
def wrongs : List PyData := [.list [], .list [.int 2, .int 4], .tuple [.int 2, .int 2]]
def shownB (d : PyData) : Bool := d.showable && (!d.hasDict && (decide (d.depth ≤ 60) && (decide (d.shown.length ≤ sizeLine) && decide ((itemsD d).length ≤ 40000))))
structure Shown (d : PyData) : Prop where
  s : d.showable = true
  h : d.hasDict = false
  dp : d.depth ≤ 60
  l : d.shown.length ≤ sizeLine
  i : (itemsD d).length ≤ 40000
theorem shown_of {d : PyData} (h : shownB d = true) : Shown d := by
  obtain ⟨h1, h⟩ := ba h
  obtain ⟨h2, h⟩ := ba h
  obtain ⟨h3, h⟩ := ba h
  obtain ⟨h4, h5⟩ := ba h
  exact ⟨h1, by simpa using h2, of_decide_eq_true h3, of_decide_eq_true h4, of_decide_eq_true h5⟩
theorem bads_ok : (bads.all fun d => shownB d && (!goodCab d && (itemsD d).all fun e => decide ((itemsD e).length ≤ 40000))) = true := by decide +kernel
theorem odds_ok : (odds.all fun d => shownB d && !isInts d) = true := by decide +kernel
theorem bad_ok {d : PyData} (h : d ∈ bads) : Shown d ∧ goodCab d = false ∧ sizesD d := by
  obtain ⟨h1, h2⟩ := ba (List.all_eq_true.mp bads_ok d h)
  obtain ⟨h3, h4⟩ := ba h2
  exact ⟨shown_of h1, by simpa using h3, (shown_of h1).i, fun e he => of_decide_eq_true (List.all_eq_true.mp h4 e he)⟩
theorem odd_ok {d : PyData} (h : d ∈ odds) : Shown d ∧ isInts d = false := by
  obtain ⟨h1, h2⟩ := ba (List.all_eq_true.mp odds_ok d h)
  exact ⟨shown_of h1, by simpa using h2⟩
theorem wrong_ok {d : PyData} (h : d ∈ wrongs) : ∃ (b : Bool) (ns : List Int) (s : Str) (i : Int), d = seqD b (ns.map PyData.int) ∧ ns.length ≤ 5 ∧ chBreach ns = some (s, i) ∧ PyData.strOk s = true := by
  have h' : d = .list [] ∨ d = .list [.int 2, .int 4] ∨ d = .tuple [.int 2, .int 2] := by simpa [wrongs] using h
  rcases h' with rfl | rfl | rfl
  · exact ⟨false, [], "first", 0, rfl, by decide, by decide +kernel, by decide +kernel⟩
  · exact ⟨false, [2, 4], "shares", 1, rfl, by decide, by decide +kernel, by decide +kernel⟩
  · exact ⟨true, [2, 2], "rises", 1, rfl, by decide, by decide +kernel, by decide +kernel⟩
section
variable {K : PySem.W.Frag} {σ : L2.St} {H : Hp} {ta : TA} {te : TE}
theorem epD_rep5 {d : PyData} (h : EvP te σ H (fun v H1 => Dp K H1 v d)) : EvP (tOp rRep (tLst (tCons te tNil)) (tC (.int 5))) σ H (fun v H1 => Dp K H1 v (.list (List.replicate 5 d))) := fun H1 e Q q =>
  h H1 e _ fun v H2 e2 hv => ⟨by show 1 ≤ sizeLine; decide, fun a ha => ⟨a, 5, [v], rfl, rfl, upd_same, by decide, by decide, by show 1 * 5 ≤ sizeLine; decide, fun b hb => q _ _ (e2.trans ((Ex.new ha).trans (Ex.new hb))) (.lst (sq_of upd_same) (by
    have hv' : Dp K (upd (upd H2 a (.lst [v])) b (.lst (List.replicate (5 : Int).toNat [v]).flatten)) v d := Dp.ex ((Ex.new ha).trans (Ex.new hb)) hv
    exact .cons hv' (.cons hv' (.cons hv' (.cons hv' (.cons hv' .nil))))))⟩⟩
theorem ep_bads : EvP (tLst (tCons (tC .non) (tCons (tC (.int 3)) (tCons (tC (.str "x")) (tCons (tLst (tCons (tTup (tCons (tC (.int 2)) (tCons (tC (.int 3)) tNil))) (tCons (tC .non) tNil))) (tCons (tLst (tCons (tTup (tCons (tC (.int 2)) (tCons (tC (.int 3)) (tCons (tC (.int 4)) tNil)))) tNil)) (tCons (tLst (tCons (tLst (tCons (tC (.int 2)) (tCons (tC (.int 3)) tNil))) tNil)) (tCons (tLst (tCons (tTup (tCons (tC (.int 2)) (tCons (tC (.bl true)) tNil))) tNil)) (tCons (tOp rRep (tLst (tCons (tTup (tCons (tC (.int 2)) (tCons (tC (.int 3)) tNil))) tNil)) (tC (.int 5))) tNil))))))))) σ H (fun v H1 => Dp K H1 v (.list bads)) := by
  have p23 : EvP (tTup (tCons (tC (.int 2)) (tCons (tC (.int 3)) tNil))) σ H (fun v H1 => Dp K H1 v (.tuple [.int 2, .int 3])) := epD_tup (ead_cons epD_int (ead_cons epD_int ead_nil)) (by decide)
  exact epD_lst (ead_cons epD_non (ead_cons epD_int (ead_cons epD_str (ead_cons (epD_lst (ead_cons p23 (ead_cons epD_non ead_nil)) (by decide)) (ead_cons (epD_lst (ead_cons (epD_tup (ead_cons epD_int (ead_cons epD_int (ead_cons epD_int ead_nil))) (by decide)) ead_nil) (by decide)) (ead_cons (epD_lst (ead_cons (epD_lst (ead_cons epD_int (ead_cons epD_int ead_nil)) (by decide)) ead_nil) (by decide)) (ead_cons (epD_lst (ead_cons (epD_tup (ead_cons epD_int (ead_cons epD_bl ead_nil)) (by decide)) ead_nil) (by decide)) (ead_cons (epD_rep5 p23) ead_nil)))))))) (by decide)
theorem ep_odds : EvP (tLst (tCons (tC .non) (tCons (tC (.int 3)) (tCons (tC (.str "x")) (tCons (tLst (tCons (tC .non) tNil)) tNil))))) σ H (fun v H1 => Dp K H1 v (.list odds)) :=
  epD_lst (ead_cons epD_non (ead_cons epD_int (ead_cons epD_str (ead_cons (epD_lst (ead_cons epD_non ead_nil) (by decide)) ead_nil)))) (by decide)
theorem ep_wrongs : EvP (tLst (tCons (tLst tNil) (tCons (tLst (tCons (tC (.int 2)) (tCons (tC (.int 4)) tNil))) (tCons (tTup (tCons (tC (.int 2)) (tCons (tC (.int 2)) tNil))) tNil)))) σ H (fun v H1 => Dp K H1 v (.list wrongs)) :=
  epD_lst (ead_cons (epD_lst ead_nil (by decide)) (ead_cons (epD_lst (ead_cons epD_int (ead_cons epD_int ead_nil)) (by decide)) (ead_cons (epD_tup (ead_cons epD_int (ead_cons epD_int ead_nil)) (by decide)) ead_nil))) (by decide)
end
end K41
set_option maxHeartbeats 0
/-! The law's last lines: the list of lambdas with their dues, the comprehension over it. -/
namespace K41
open PySem PySem.Spec PyProof.Rows L2 He TC Evl LamX
section
variable {w : World} {h0 base : Heap} {K : PySem.W.Frag} {mg : Str → Option Value}
abbrev LX (w : World) (K : PySem.W.Frag) (mg : Str → Option Value) (base : Heap) (cdv : Value) (A : Around) (outer : List Env) (s : Shared) (H : Hp) (E : XK) : Cx := cxOf (L2.CX PP w) PP w K mg base N_law "law" (defScope s_law) (ga K "law") cdv A outer s H E
/-- items of the two tuples: equal texts, or instances with equal fields -/
def Rno (C : Addr) (a b : Addr) (H : Hp) : Prop := ∃ (dx dy : Addr) (s : Str) (i : Int), PyData.strOk s = true ∧ H a = some (.ins C dx [("why", .str s), ("index", .int i)]) ∧ H b = some (.ins C dy [("why", .str s), ("index", .int i)])
def Dq (K : PySem.W.Frag) : Eqv := fun x y H => DFlat x y H ∨ DIns (ga K "NoCharacters") (Rno (ga K "NoCharacters")) x y H
theorem mon_Dq : Mon (Dq K) := mon_flat.or (mon_ins fun a b H H' e ⟨dx, dy, s, i, h0, h1, h2⟩ => ⟨dx, dy, s, i, h0, e _ _ h1, e _ _ h2⟩)
def tCaught (w : World) (K : PySem.W.Frag) (mg : Str → Option Value) (X : Cx) (σ : L2.St) : TT := fun σ' H' Q => ∀ B, BaseOk X σ B → tTest (tOp (rNeT K (Dq K)) (tCall (sp_caught w K mg B) [] E0 (tCons (tVar 16) tNil)) (tVar 17)) σ' H' Q
theorem shaped_no {s : Str} {i : Int} (h : PyData.strOk s = true) : SeqAt.shaped (.tuple [.str s, .int i]) = true := by
  show (PyData.canLay0 (.tuple [.str s, .int i]) && decide (PyData.depth (.tuple [.str s, .int i]) ≤ 64)) = true
  simp [PyData.canLay0, PyData.canLayAll0, PyData.depth, PyData.depthAll, h]
theorem eqG_Dq {X : Cx} (T : Wk h0 K mg base) (hP : X.prog = PP) (hw : X.w = w) (hK : X.K = K) (hm : X.mg = mg) (hB : X.base = base) : EqG X 1 (Dq K) := by
  subst hw hK hm hB
  obtain ⟨fd, b, F⟩ := (ok_NoCharacters_eq (w := X.w) T).ex
  have c := eqC T (x := "NoCharacters") (by decide) (me_NoCharacters_eq T)
  refine EqG.or (eqG_flat.mono (Nat.zero_le _)) (eqG_ins (CX := CX0) (E := E0) (hP ▸ TC.FnOk.imp F fun vs H Q E h => ?_) c.eq c.isf b (fun _ _ _ _ _ _ _ h => h.elim))
  obtain ⟨a, b, rfl, ⟨dx, dy, s, i, hs, h1, h2⟩, hQ⟩ := h
  refine ⟨a, b, dx, dy, _, _, _, _, .str s, .int i, .str s, .int i, rfl, h1, h2, .str s, .int i, .str s, .int i, shaped_no hs, shaped_no hs, fun H' e => ?_⟩
  have he : PyData.eqv (.tuple [.str s, .int i]) (.tuple [.str s, .int i]) = true := by simp [PyData.eqv, PyData.eqvAll]
  rw [he]
  exact hQ H' e
end
section
variable {TT : List (Addr × Str)} {K : PySem.W.Frag} {σ : L2.St} {H : Hp} {te : TE} {ta : TA} {P : V → Hp → Prop} {D : Ends} {tz : TS}
/-- a value with its word, the word standing though tables change -/
def EvM (TT : List (Addr × Str)) (te : TE) (σ : L2.St) (H : Hp) (P : V → Hp → Prop) : Prop := EvN TT te σ H P ∧ MonN P
def EvAM (TT : List (Addr × Str)) (ta : TA) (σ : L2.St) (H : Hp) (Ps : List (V → Hp → Prop)) : Prop := EvAN TT ta σ H (AllP Ps) ∧ ∀ P ∈ Ps, MonN P
def TupN (Ps : List (V → Hp → Prop)) : V → Hp → Prop := fun v H => ∃ a vs, v = .ref a ∧ H a = some (.tup vs) ∧ AllP Ps vs H
def LstN (Ps : List (V → Hp → Prop)) : V → Hp → Prop := fun v H => ∃ a vs, v = .ref a ∧ H a = some (.lst vs) ∧ AllP Ps vs H
theorem monN_tup {Ps : List (V → Hp → Prop)} (m : ∀ P ∈ Ps, MonN P) : MonN (TupN Ps) := fun v H H' e ⟨a, vs, h1, h2, h3⟩ => ⟨a, vs, h1, e _ _ h2 (fun ps z => nomatch z), h3.1, fun i v P h4 h5 => m P (List.mem_of_getElem? h5) v _ _ e (h3.2 i v P h4 h5)⟩
theorem monN_lst {Ps : List (V → Hp → Prop)} (m : ∀ P ∈ Ps, MonN P) : MonN (LstN Ps) := fun v H H' e ⟨a, vs, h1, h2, h3⟩ => ⟨a, vs, h1, e _ _ h2 (fun ps z => nomatch z), h3.1, fun i v P h4 h5 => m P (List.mem_of_getElem? h5) v _ _ e (h3.2 i v P h4 h5)⟩
theorem eam_nil : EvAM TT tNil σ H [] := ⟨ean_nil, fun P h => by simp at h⟩
theorem eam_cons {Ps : List (V → Hp → Prop)} (h : EvM TT te σ H P) (hr : EvAM TT ta σ H Ps) : EvAM TT (tCons te ta) σ H (P :: Ps) := ⟨ean_cons h.2 h.1 hr.1, fun R hR => by
  rcases List.mem_cons.mp hR with rfl | z
  · exact h.2
  · exact hr.2 R z⟩
theorem em_tup {Ps : List (V → Hp → Prop)} (h : EvAM TT ta σ H Ps) (hl : Ps.length ≤ 100000) : EvM TT (tTup ta) σ H (TupN Ps) := ⟨en_tup h.2 h.1 hl, monN_tup h.2⟩
theorem em_lst {Ps : List (V → Hp → Prop)} (h : EvAM TT ta σ H Ps) (hl : Ps.length ≤ 100000) : EvM TT (tLst ta) σ H (LstN Ps) := ⟨en_lst h.2 h.1 hl, monN_lst h.2⟩
theorem em_lam {q : Str} {params : Arguments} {body : Expr} {scope : Scope} {cl : List (Str × Addr)} : EvM TT (tLamb TT q params body scope cl) σ H (LamW q params body scope cl) := ⟨en_lam, monN_lam⟩
theorem em_p (h : EvP te σ (noTbl H) P) (m : MonN P) : EvM TT te σ H P := ⟨EvP.n h, m⟩
theorem q_asgN {i : Nat} (h : EvM TT te σ H P) (t : Tabs TT H) (k : ∀ v H1, ExtN H H1 → P v H1 → tz D (σ.set i (some v)) H1) : tSeq (tAsg te (gName i)) tz D σ H := h.1 H (ExtN.refl H) t _ fun v H1 e _ p => k v H1 e p
theorem epDs {s : Str} (h : Ev te σ H (.str s)) : EvP te σ H (fun v H1 => Dp K H1 v (.str s)) := fun H1 e Q q => h H1 e _ fun H2 e2 => q _ H2 e2 (.str _)
/-- a comprehension that keeps nothing -/
theorem el_lcF {b : Bool} {a : Addr} {xs : List V} {tl te : TE} {t : L2.TT} {g : TG} {vs : List Nat} (h : Ev tl σ H (.ref a)) (hx : SqB K H b a xs) (hz : xs.length ≤ 40000)
    (hs : ∀ (i : Nat) (x : V) H1, Ex H H1 → xs[i]? = some x → ∀ R : L2.St → Bool → Hp → Prop, (∀ σ2 H3, Ex H1 H3 → R σ2 false H3) → g x (wipe σ vs) H1 fun σ2 H2 => wipe σ2 vs = wipe σ vs ∧ t σ2 H2 (R σ2)) :
    EvL (tLc (iAny K tl) g t te vs) σ H [] := fun H0 e Q q => h H0 e _ fun H1 e1 => ⟨b, a, rfl, ⟨xs, hx.ex (e.trans e1)⟩, fun Dl hD =>
  lc_it walk_B (Cw H1 (fun _ => false) (fun _ => .non) Dl) ⟨hD, Ex.new hD, upd_same⟩ (fun i H' _ p => hx.ex ((e.trans e1).trans p.2.1)) (fun i x H' H'' hi p y => by
    obtain ⟨rfl, y2⟩ := y
    refine hs i x _ ((e.trans e1).trans p.2.1) y2 (fun σ2 b H3 => if b = true then te σ2 H3 fun y H4 => ∃ acc, H4 Dl = some (.lst acc) ∧ acc.length < sizeLine ∧ Cw H1 (fun _ => false) (fun _ => .non) Dl (i + 1) (upd H4 Dl (.lst (acc ++ [y]))) else Cw H1 (fun _ => false) (fun _ => .non) Dl (i + 1) H3) fun σ2 H3 e3 => ?_
    show Cw H1 (fun _ => false) (fun _ => .non) Dl (i + 1) H3
    refine ⟨p.1, p.2.1.trans e3, ?_⟩
    have p3 := e3 _ _ p.2.2
    rw [given_none] at p3 ⊢
    exact p3)
    (fun H' p => q Dl H' (fresh_back e1 p.1) (e1.trans p.2.1) (by have p3 := p.2.2; rw [given_none] at p3; exact p3))⟩
end
section
variable {w : World} {h0 base : Heap} {K : PySem.W.Frag} {mg : Str → Option Value}
/-- a pair of a lambda and its due -/
def Elem (w : World) (K : PySem.W.Frag) (mg : Str → Option Value) (X : Cx) (σ : L2.St) (H : Hp) (x : V) : Prop := ∃ (t f : Addr) (dv : V), x = .ref t ∧ H t = some (.tup [.ref f, dv]) ∧ ∀ B, BaseOk X σ B → ∀ H1, Ex H H1 → ∀ Q : VK, (∀ v H3, Ex H1 H3 → DTup K (Dq K) v dv H3 → Q v H3) → Thunk PP w K mg B 9 f H1 (fun _ _ => False) (fun cls d H' => Wish K cls d H' Q)
theorem rd_elem {X : Cx} {σ0 : L2.St} {x0 x1 x2 x3 x4 x5 x6 x7 x8 x9 x10 x11 x12 x13 x14 x15 x16 x17 : Option V} {H H1 : Hp} {x : V} (h : Elem w K mg X σ0 H x) (e : Ex H H1) {R : L2.St → Bool → Hp → Prop} (hR : ∀ σ2 H3, Ex H1 H3 → R σ2 false H3) :
    gTup K 2 (gCons (gName 16) (gCons (gName 17) gNil)) x (wipe [x0, x1, x2, x3, x4, x5, x6, x7, x8, x9, x10, x11, x12, x13, x14, x15, x16, x17] [16, 17]) H1 fun σ2 H2 => wipe σ2 [16, 17] = wipe [x0, x1, x2, x3, x4, x5, x6, x7, x8, x9, x10, x11, x12, x13, x14, x15, x16, x17] [16, 17] ∧ tCaught w K mg X σ0 σ2 H2 (R σ2) := by
  obtain ⟨t, f, dv, rfl, ht, hth⟩ := h
  refine ⟨t, _, rfl, st_of (e _ _ ht), rfl, _, _, rfl, _, _, rfl, rfl, rfl, fun B hB => ?_⟩
  exact ⟨.ref f, rfl, f, rfl, hth B hB H1 e _ fun v H3 e3 hd => ⟨dv, rfl, hd, fun H5 e5 => ⟨false, rfl, hR _ H5 (e3.trans e5)⟩⟩⟩
theorem dq_str {s : Str} {H : Hp} : Dq K (.str s) (.str s) H := .inl ⟨rfl, rfl, by simp [eqV]⟩
theorem pair_inv {H : Hp} {v : V} {s1 s2 : Str} (h : Dp K H v (.tuple [.str s1, .str s2])) : ∃ a, v = .ref a ∧ SqT K H a [.str s1, .str s2] := by
  obtain ⟨a, xs, rfl, sq, da⟩ := Dp.seq_inv (b := true) h
  cases da with
  | cons h1 da =>
    cases da with
    | cons h2 da =>
      cases da
      cases h1
      cases h2
      exact ⟨a, rfl, sq⟩
/-- a lambda that fails with BadRow; its due holds the text of the value -/
theorem elem_row {X : Cx} {σ : L2.St} {H : Hp} {x bv : V} {bd : PyData} {q : Str} {params : Arguments} {body : Expr} {scope : Scope} {cl : List (Str × Addr)} (sh : Shown bd) (hb : Dp K H bv bd)
    (hp : TupN [LamW q params body scope cl, fun v H => Dp K H v (.tuple [.str "row", .str bd.shown])] x H)
    (hth : ∀ f c, H f = some (LamO f q params body scope cl c) → H c = some (CodeO c q) → ∀ B, BaseOk X σ B → ∀ H1, Ex H H1 → ∀ E : XK, Err K "BadRow" "value" E H1 (fun v _ => v = bv) → Thunk PP w K mg B 9 f H1 (fun _ _ => False) E) : Elem w K mg X σ H x := by
  obtain ⟨t, vs, rfl, ht, hl, hall⟩ := hp
  match vs, hl with
  | [v1, v2], _ =>
    obtain ⟨f, c, rfl, hf, hc⟩ := hall 0 v1 _ rfl rfl
    have hd : Dp K H v2 (.tuple [.str "row", .str bd.shown]) := hall 1 v2 _ rfl rfl
    refine ⟨t, f, v2, rfl, ht, fun B hB H1 e Q hQ => hth f c hf hc B hB H1 e _ fun H' dd v e' ev hdd => ?_⟩
    subst ev
    refine .inl ⟨dd, v, bd, rfl, rfl, hdd, Dp.ex (e.trans e') hb, sh.s, sh.h, sh.dp, sh.l, fun v3 H2 e2 hv3 => hQ v3 H2 (e'.trans e2) ?_⟩
    obtain ⟨a1, rfl, s1⟩ := pair_inv hv3
    obtain ⟨a2, rfl, s2⟩ := pair_inv (Dp.ex ((e.trans e').trans e2) hd)
    exact ⟨a1, a2, _, _, rfl, rfl, s1, s2, Prs.cons dq_str (Prs.cons dq_str Prs.nil)⟩
theorem elem_ch {X : Cx} {σ : L2.St} {H : Hp} {x : V} {s : Str} {i : Int} {q : Str} {params : Arguments} {body : Expr} {scope : Scope} {cl : List (Str × Addr)} (hs : PyData.strOk s = true)
    (hp : TupN [LamW q params body scope cl, TupN [fun v _ => v = .str "characters", fun v H => ChA K v H (some (s, i))]] x H)
    (hth : ∀ f c, H f = some (LamO f q params body scope cl c) → H c = some (CodeO c q) → ∀ B, BaseOk X σ B → ∀ H1, Ex H H1 → ∀ E : XK, Err K "BadCharacters" "answer" E H1 (fun v H' => ChA K v H' (some (s, i))) → Thunk PP w K mg B 9 f H1 (fun _ _ => False) E) : Elem w K mg X σ H x := by
  obtain ⟨t, vs, rfl, ht, hl, hall⟩ := hp
  match vs, hl with
  | [v1, v2], _ =>
    obtain ⟨f, c, rfl, hf, hc⟩ := hall 0 v1 _ rfl rfl
    obtain ⟨t2, us, rfl, ht2, hl2, hall2⟩ := hall 1 v2 _ rfl rfl
    match us, hl2 with
    | [u1, u2], _ =>
      obtain rfl : u1 = .str "characters" := hall2 0 u1 _ rfl rfl
      obtain ⟨y, dy, rfl, hy⟩ := hall2 1 u2 _ rfl rfl
      refine ⟨t, f, .ref t2, rfl, ht, fun B hB H1 e Q hQ => hth f c hf hc B hB H1 e _ fun H' dd v e' hv hdd => ?_⟩
      obtain ⟨z, dz, rfl, hz⟩ := hv
      refine .inr ⟨dd, .ref z, rfl, rfl, hdd, fun v3 H2 e2 ⟨t3, ev, s3⟩ => hQ v3 H2 (e'.trans e2) ?_⟩
      subst ev
      have hy2 := (e.trans e').trans e2
      exact ⟨t3, t2, _, _, rfl, rfl, s3, st_of (hy2 _ _ ht2), Prs.cons dq_str (Prs.cons (.inr ⟨z, y, dz, dy, _, _, rfl, rfl, e2 _ _ hz, hy2 _ _ hy, dz, dy, s, i, hs, e2 _ _ hz, hy2 _ _ hy⟩) Prs.nil)⟩
theorem free2 {x y n : Str} (h : List.lookup n [(x, NameKind.free), (y, NameKind.globalImplicit)] = some .free) : n = x := by
  rw [List.lookup_cons] at h
  cases q : (n == x) with
  | true => exact eq_of_beq q
  | false =>
    rw [q] at h
    have h' : List.lookup n [(y, NameKind.globalImplicit)] = some .free := h
    rw [List.lookup_cons] at h'
    cases q2 : (n == y) with
    | true => rw [q2] at h'; cases h'
    | false => rw [q2] at h'; cases h'
theorem monN_ch {s : Str} {i : Int} : MonN (fun v H => ChA K v H (some (s, i))) := fun v H H' e ⟨x, dx, h1, h2⟩ => ⟨x, dx, h1, e _ _ h2 (fun ps z => nomatch z)⟩
end
end K41
set_option maxHeartbeats 0
/-! The walk: the law. -/
namespace K41
open PySem PySem.Spec PyProof.Rows L2 He TC Evl LamX
section
variable {w : World} {h0 base : Heap} {K : PySem.W.Frag} {mg : Str → Option Value}
theorem pt_caught (T : Wk h0 K mg base) {cdv : Value} {A : Around} {outer : List Env} {s : Shared} {H : Hp} {E : XK} {k : Nat} (hr : Room k (LX w K mg base cdv A outer s H E).A) (hg : A.guards = some []) {σ : L2.St} {s1 : Shared} {H1 : Hp} {scope : Scope} {cenv : Env} {fp : List Addr} {p1 p2 p3 p4 p5 : Pos}
    (ent : Entry (LX w K mg base cdv A outer s H E) σ s1 H1 fp) (hG : Gl ((LX w K mg base cdv A outer s H E).blk s1 H1 scope cenv fp) "_law_g_caught") (v1 : Vis ((LX w K mg base cdv A outer s H E).blk s1 H1 scope cenv fp).env.scope "call") (v2 : Vis ((LX w K mg base cdv A outer s H E).blk s1 H1 scope cenv fp).env.scope "due") (hk : 12 ≤ k := by decide) :
    PT ((LX w K mg base cdv A outer s H E).blk s1 H1 scope cenv fp) (.Compare (.Call (.Name "_law_g_caught" p1) [.Name "call" p2] [] p3) [.NotEq] [.Name "due" p4] p5) (tCaught w K mg (LX w K mg base cdv A outer s H E) σ) := by
  obtain ⟨pins, I, hfp⟩ := ent
  obtain ⟨B, b⟩ := based I (fun _ => rfl)
  have bok := baseOk_of I b
  have TB : Wk h0 K mg B := ⟨T.says, b.mod.kin, b.mod.glob⟩
  obtain ⟨f, fd, hm, kp, hb, F⟩ := ok_caught (w := w) TB
  have pt := pt_cmpR (X := (LX w K mg base cdv A outer s H E).blk s1 H1 scope cenv fp) (pos := p5) (op_neT (mon_Dq (K := K)) (eqG_Dq (w := w) T rfl rfl rfl rfl rfl) (hr.mono (by omega))) (pe_callGB (p := p1) (pos := p3) b (fun a ha => (hfp a ha).1) F (hr.mono (by omega)) hg hG hm kp hb (pa_cons (pe_var (pos := p2) (i := 16) rfl v1) pa_nil)) (pe_var (pos := p4) (i := 17) rfl v2) (nomark _)
  exact ⟨fun pins' s' σ' H' Q I' h => pt.run pins' s' σ' H' Q I' (h B bok)⟩
def sp_law (K : PySem.W.Frag) (Pt : Addr) : Sp := fun vs H Q _ => ∃ (a : Addr) (ns : List Int), vs = [.ref a] ∧ SqL K H a (ns.map V.int) ∧ H Pt = some (.tbl #[]) ∧ ∀ H', Q (.bl true) H'
theorem dpA_cut4 {H : Hp} {vs : List V} {ds : List PyData} (h : DpAll K H vs ds) : DpAll K H (cutV vs none (some 4)) (ds.take 4) := by
  rw [cut_take4]
  exact DpAll.take h
theorem dp_rows {H H' : Hp} {f a : Addr} {zs : List V} {ns : List Int} (hf : H f = some (.lst zs)) (e : ExX f H H') (h : Dp K H (.ref a) (tupI ns)) : Dp K H' (.ref a) (tupI ns) := by
  obtain ⟨a', ea, sq⟩ := tup_ints_inv (ns := ns) h
  cases ea
  refine Dp.tup ?_ DpAll.ints
  rcases sq with (hc | ⟨o, hc⟩) | hc
  · exact .inl (.inl (e a _ (fun z => by rw [z, hf] at hc; cases hc) hc))
  · exact .inl (.inr ⟨o, e a _ (fun z => by rw [z, hf] at hc; cases hc) hc⟩)
  · exact .inr hc
theorem ok_law (T : Wk h0 K mg base) {Pt c : Addr} (TB : TabB base mg c Pt) (hc : He.codeOf K ("law", none) = c) {fd : FuncData} (F : FunD K "law" "law" (defArgs s_law) (defBody s_law) (defScope s_law) [] [] (ga K "law") fd) : FnG PP w K mg base (L2.CX PP w) 14 (ga K "law") fd ["script"] (sp_law K Pt) := by
  refine TC.FunD.okG F sc_law (fun vs H Q E h => ?_) (fun cdv A outer s H vs Q E hcd hfd hr hg0 h => ?_)
  · obtain ⟨a, ns, rfl, _⟩ := h; rfl
  have hcode : (LX w K mg base cdv A outer s H E).env.code = .ref c := by
    obtain ⟨od, oc, osl, fd', lk, e⟩ := hfd
    obtain ⟨c', e'⟩ := He.codeIn_ref hcd
    have := He.codeOf_eq (p := ("law", none)) lk (e.trans e')
    show cdv = .ref c
    rw [e', ← hc]
    exact congrArg Value.ref this.symm
  refine ⟨_, (pss_cons (ps_set (i := 1) sc_law.nd rfl (Or.inl rfl) (pe_cl (ok_law_pen T) hr (by decide) (by rfl) (pa_cons (pv 0) pa_nil))) (pss_cut (ps_for (passes_of rfl) rfl (pi_range1 (by rfl) (m_range T) (pa_cons (pe_int) pa_nil)) (pg_name (i := 2) sc_law.nd rfl (Or.inl rfl)) (pss_cons (ps_set (i := 3) sc_law.nd rfl (Or.inl rfl) (pe_cl (ok_law_g_rows T) hr (by decide) (by rfl) (pa_cons (pv 1) pa_nil))) (pss_cons (ps_set (i := 4) sc_law.nd rfl (Or.inl rfl) (pe_clX (ok_cable_row T) hr (by decide) (passes_call (takes_of rfl rfl rfl rfl) (fun _ _ _ _ h => h)) (by rfl) (pa_cons (pe_cl (ok_law_listed T) hr (by decide) (by rfl) (pa_cons (pv 1) (pa_cons (pv 3) pa_nil))) pa_nil))) (pss_cons (ps_if (PW.pt (pw_or (pt_cmpR (op_neD (hu64 hr)) (pv 4) (pe_callTy call_tuple_of (by rfl) (m_tuple T) (by decide +kernel) (pa_cons (pe_cl (ok_law_t_cable T) hr (by decide) (by rfl) (pa_cons (pv 3) pa_nil)) pa_nil)) (nomark _)) (pw_or1 (pt_cmpR (op_neD (hu64 hr)) (pe_lc (own := [("pair", 15)]) (g := gName 15) rfl sc_law.nd (pi_any (pv 4)) (blkOk_by (N := N_law) (sc := defScope s_law) (by decide +kernel)) (fun _ _ _ _ _ => (pg_name (i := 15) sc_law.nd rfl (Or.inl rfl))) (fun _ _ _ _ _ => (pts_one (PW.pt (pw_or (pt_not (pt_val (pe_callB (call_isi1 (K := K) rfl) (by rfl) (m_isinstance T) boot_isinstance (pa_cons (pv 15) (pa_cons (pe_bltn (v := .ty "tuple") (by rfl) (m_tuple T) (by decide +kernel) rfl) pa_nil))))) (pw_or1 (pt_val (pe_callB (call_isi1 (K := K) rfl) (by rfl) (m_isinstance T) boot_isinstance (pa_cons (pe_ix (ix_seqK (K := K) rfl) (pv 15) (pe_int) (fun _ _ => rfl)) (pa_cons (pe_bltn (v := .ty "bool") (by rfl) (m_bool T) (by decide +kernel) rfl) pa_nil))))))))) (fun _ _ _ _ _ => (pe_int))) (pe_lst pa_nil) (nomark _))))) (pss_one (ps_ret (pe_bl))) pss_nil) (pss_cons (ps_if (pt_cmpR (op_neO (ok_CableOf_eq T) (eqC T (by decide) (me_CableOf_eq T)) hr (by decide)) (pe_clX (ok_settle_cable T) hr (by decide) (passes_call (takes_of rfl rfl rfl rfl) (fun _ _ _ _ h => h)) (by rfl) (pa_cons (pe_cl (ok_law_listed T) hr (by decide) (by rfl) (pa_cons (pv 1) (pa_cons (pv 4) pa_nil))) pa_nil)) (pe_mkc (ok_CableOf_init T) hr (by decide) (by rfl) (pa_cons (pv 3) pa_nil)) (nomark _)) (pss_one (ps_ret (pe_bl))) pss_nil) (pss_cons (ps_set (i := 5) sc_law.nd rfl (Or.inr rfl) (pe_cl (ok_law_g_shares T) hr (by decide) (by rfl) (pa_cons (pv 3) pa_nil))) (pss_cons (ps_if (pt_cmpR (op_neD (hu64 hr)) (pe_lc (own := [("k", 7), ("pair", 15)]) (g := gTup K 2 (gCons (gName 7) (gCons (gName 15) gNil))) rfl sc_law.nd (pi_enumA (by rfl) (m_enumerate T) (pa_cons (pv 4) pa_nil)) (blkOk_by (N := N_law) (sc := defScope s_law) (by decide +kernel)) (fun _ _ _ _ _ => (pg_tup rfl (pgs_cons (pg_name (i := 7) sc_law.nd rfl (Or.inl rfl)) (pgs_cons (pg_name (i := 15) sc_law.nd rfl (Or.inl rfl)) pgs_nil)))) (fun _ _ _ _ _ => pts_nil) (fun _ _ _ _ _ => (pe_op op_mul (pe_ix (ix_seqK (K := K) rfl) (pv 15) (pe_int) (fun _ _ => rfl)) (pe_ix (ix_seqK (K := K) rfl) (pv 5) (pe_op op_add (pv 7) (pe_int)) (fun _ _ => rfl))))) (pe_slice sl_list (pe_callTy call_list_of (by rfl) (m_list T) (by decide +kernel) (pa_cons (pe_clX (ok_generators T) hr (by decide) (passes_call (takes_of rfl rfl rfl rfl) (fun _ _ _ _ h => h)) (by rfl) (pa_cons (pv 3) pa_nil)) pa_nil)) (po_some (pe_int)) po_none) (nomark _)) (pss_one (ps_ret (pe_bl))) pss_nil) (pss_cons (ps_set (i := 6) sc_law.nd rfl (Or.inl rfl) (pe_callTy call_list_of (by rfl) (m_list T) (by decide +kernel) (pa_cons (pv 4) pa_nil))) (pss_cut (ps_if (PW.pt (pw_and (pt_cmpR (op_gt) (pv 2) (pe_int) (nomark _)) (pw_and1 (pt_cmpR (op_neD (hu64 hr)) (pv 6) (pe_lst pa_nil) (nomark _))))) (pss_cons (ps_set (i := 7) sc_law.nd rfl (Or.inl rfl) (pe_cl (ok_law_draw T) hr (by decide) (by rfl) (pa_cons (pv 1) (pa_cons (pe_callB (call_lenK (K := K) rfl) (by rfl) (m_len T) boot_len (pa_cons (pv 6) pa_nil)) pa_nil)))) (pss_one (ps_asg (pe_tup (pa_cons (pe_op op_add (pe_ix (ix_seqK (K := K) rfl) (pe_ix (ix_seqK (K := K) rfl) (pv 6) (pv 7) (fun _ _ => rfl)) (pe_int) (fun _ _ => rfl)) (pe_cl (ok_law_pick T) hr (by decide) (by rfl) (pa_cons (pv 1) (pa_cons (pe_lst (pa_cons (pe_int) (pa_cons (pe_int) (pa_cons (pe_int) (pa_cons (pe_un un_neg (pe_int)) (pa_cons (pe_un un_neg (pe_int)) pa_nil)))))) pa_nil)))) (pa_cons (pe_op op_add (pe_ix (ix_seqK (K := K) rfl) (pe_ix (ix_seqK (K := K) rfl) (pv 6) (pv 7) (fun _ _ => rfl)) (pe_int) (fun _ _ => rfl)) (pe_cl (ok_law_pick T) hr (by decide) (by rfl) (pa_cons (pv 1) (pa_cons (pe_lst (pa_cons (pe_int) (pa_cons (pe_int) (pa_cons (pe_un un_neg (pe_int)) (pa_cons (pe_un un_neg (pe_int)) (pa_cons (pe_int) pa_nil)))))) pa_nil)))) pa_nil))) (pg_sub (pv 6) (pv 7) set_list)))) pss_nil) (pss_cut (ps_if (pt_cmpR (op_gt) (pv 2) (pe_int) (nomark _)) (pss_one (ps_set (i := 6) sc_law.nd rfl (Or.inl rfl) (pe_slice sl_list (pe_op op_cat (pv 6) (pe_lst (pa_cons (pe_tup (pa_cons (pe_op op_add (pe_int) (pe_cl (ok_law_draw T) hr (by decide) (by rfl) (pa_cons (pv 1) (pa_cons (pe_int) pa_nil)))) (pa_cons (pe_op op_add (pe_int) (pe_cl (ok_law_draw T) hr (by decide) (by rfl) (pa_cons (pv 1) (pa_cons (pe_int) pa_nil)))) pa_nil))) pa_nil))) po_none (po_some (pe_int))))) pss_nil) (pss_cons (ps_set (i := 8) sc_law.nd rfl (Or.inl rfl) (pe_clX (ok_settle_cable T) hr (by decide) (passes_call (takes_of rfl rfl rfl rfl) (fun _ _ _ _ h => h)) (by rfl) (pa_cons (pe_cl (ok_law_listed T) hr (by decide) (by rfl) (pa_cons (pv 1) (pa_cons (pv 6) pa_nil))) pa_nil))) (pss_cons (ps_if (PW.pt (pw_or (pt_cmpR (op_notN) (pe_cl (ok_law_due T) hr (by decide) (by rfl) (pa_cons (pv 6) (pa_cons (pv 8) pa_nil))) (pe_non) (nomark _)) (pw_or (pt_cmpR (op_notN) (pe_clX (ok_cable_fault T) hr (by decide) (passes_call (takes_of rfl rfl rfl rfl) (fun _ _ _ _ h => h)) (by rfl) (pa_cons (pv 6) (pa_cons (pv 8) pa_nil))) (pe_non) (nomark _)) (pw_or1 (pt_not (pt_cmpR (OpR.or (op_eqO (ok_CableOf_eq T) (eqC T (by decide) (me_CableOf_eq T)) hr (by decide)) (op_eqO (ok_NoCable_eq T) (eqC T (by decide) (me_NoCable_eq T)) hr (by decide))) (pv 8) (pe_clX (ok_settle_cable T) hr (by decide) (passes_call (takes_of rfl rfl rfl rfl) (fun _ _ _ _ h => h)) (by rfl) (pa_cons (pe_callTy call_list_of (by rfl) (m_list T) (by decide +kernel) (pa_cons (pv 6) pa_nil)) pa_nil)) (nomark _))))))) (pss_one (ps_ret (pe_bl))) pss_nil) (pss_cons (ps_if (PW.pt (pw_and (pt_val (pe_callB (call_isi1 (K := K) rfl) (by rfl) (m_isinstance T) boot_isinstance (pa_cons (pv 8) (pa_cons (pe_glob (v := .ref (ga K "CableOf")) (by rfl) (g_CableOf T) rfl) pa_nil)))) (pw_and1 (pt_not (pt_val (pe_callB (call_isi1 (K := K) rfl) (by rfl) (m_isinstance T) boot_isinstance (pa_cons (pe_fld (pv 8) rfl) (pa_cons (pe_bltn (v := .ty "tuple") (by rfl) (m_tuple T) (by decide +kernel) rfl) pa_nil)))))))) (pss_one (ps_ret (pe_bl))) pss_nil) (pss_one (ps_for (passes_of rfl) rfl (pi_range1 (by rfl) (m_range T) (pa_cons (pe_int) pa_nil)) (pg_name (i := 9) sc_law.nd rfl (Or.inl rfl)) (pss_cons (ps_set (i := 10) sc_law.nd rfl (Or.inl rfl) (pe_lst (pa_cons (pe_mkc (ok_CableOf_init T) hr (by decide) (by rfl) (pa_cons (pv 3) pa_nil)) (pa_cons (pe_mkc (ok_CableOf_init T) hr (by decide) (by rfl) (pa_cons (pe_cl (ok_law_row T) hr (by decide) (by rfl) (pa_cons (pv 6) pa_nil)) pa_nil)) (pa_cons (pe_mkc (ok_CableOf_init T) hr (by decide) (by rfl) (pa_cons (pe_non) pa_nil)) (pa_cons (pe_mkc (ok_CableOf_init T) hr (by decide) (by rfl) (pa_cons (pe_callTy call_list_of (by rfl) (m_list T) (by decide +kernel) (pa_cons (pv 3) pa_nil)) pa_nil)) (pa_cons (pe_mkc (ok_NoCable_init T) hr (by decide) (by rfl) (pa_cons (pe_str) (pa_cons (pe_int) pa_nil))) (pa_cons (pe_mkc (ok_NoCable_init T) hr (by decide) (by rfl) (pa_cons (pe_str) (pa_cons (pe_int) pa_nil))) (pa_cons (pe_mkc (ok_NoCable_init T) hr (by decide) (by rfl) (pa_cons (pe_str) (pa_cons (pe_bl) pa_nil))) (pa_cons (pe_non) (pa_cons (pe_int) pa_nil))))))))))) (pss_cut (ps_if (pt_val (pe_callB (call_isi1 (K := K) rfl) (by rfl) (m_isinstance T) boot_isinstance (pa_cons (pv 8) (pa_cons (pe_glob (v := .ref (ga K "NoCable")) (by rfl) (g_NoCable T) rfl) pa_nil)))) (pss_one (ps_set (i := 10) sc_law.nd rfl (Or.inl rfl) (pe_op op_cat (pv 10) (pe_lst (pa_cons (pe_mkc (ok_NoCable_init T) hr (by decide) (by rfl) (pa_cons (pe_fld (pv 8) rfl) (pa_cons (pe_fld (pv 8) rfl) pa_nil))) (pa_cons (pe_mkc (ok_NoCable_init T) hr (by decide) (by rfl) (pa_cons (pe_fld (pv 8) rfl) (pa_cons (pe_op op_add (pe_fld (pv 8) rfl) (pe_int)) pa_nil))) (pa_cons (pe_mkc (ok_NoCable_init T) hr (by decide) (by rfl) (pa_cons (pe_non) (pa_cons (pe_fld (pv 8) rfl) pa_nil))) pa_nil))))))) pss_nil) (pss_cons (ps_set (i := 11) sc_law.nd rfl (Or.inl rfl) (pe_cl (ok_law_pick T) hr (by decide) (by rfl) (pa_cons (pv 1) (pa_cons (pv 10) pa_nil)))) (pss_one (ps_if (pt_cmpR (op_neD (hu64 hr)) (pe_clX (ok_cable_fault T) hr (by decide) (passes_call (takes_of rfl rfl rfl rfl) (fun _ _ _ _ h => h)) (by rfl) (pa_cons (pv 6) (pa_cons (pv 11) pa_nil))) (pe_cl (ok_law_due T) hr (by decide) (by rfl) (pa_cons (pv 6) (pa_cons (pv 11) pa_nil))) (nomark _)) (pss_one (ps_ret (pe_bl))) pss_nil)))))))))))))))))))) (pss_cons (ps_if (PW.pt (pw_or (pt_cmpR (op_neO (ok_CableOf_eq T) (eqC T (by decide) (me_CableOf_eq T)) hr (by decide)) (pe_mkc (ok_CableOf_init T) hr (by decide) (by rfl) (pa_cons (pe_lst (pa_cons (pe_int) pa_nil)) pa_nil)) (pe_mkc (ok_CableOf_init T) hr (by decide) (by rfl) (pa_cons (pe_tup (pa_cons (pe_int) pa_nil)) pa_nil)) (nomark _)) (pw_or (pt_cmpR (op_eqO (ok_CableOf_eq T) (eqC T (by decide) (me_CableOf_eq T)) hr (by decide)) (pe_mkc (ok_CableOf_init T) hr (by decide) (by rfl) (pa_cons (pe_tup (pa_cons (pe_int) pa_nil)) pa_nil)) (pe_mkc (ok_CableOf_init T) hr (by decide) (by rfl) (pa_cons (pe_tup (pa_cons (pe_int) pa_nil)) pa_nil)) (nomark _)) (pw_or (pt_cmpR (op_neO (ok_NoCable_eq T) (eqC T (by decide) (me_NoCable_eq T)) hr (by decide)) (pe_mkc (ok_NoCable_init T) hr (by decide) (by rfl) (pa_cons (pe_str) (pa_cons (pe_int) pa_nil))) (pe_mkc (ok_NoCable_init T) hr (by decide) (by rfl) (pa_cons (pe_str) (pa_cons (pe_int) pa_nil))) (nomark _)) (pw_or (pt_cmpR (op_eqO (ok_NoCable_eq T) (eqC T (by decide) (me_NoCable_eq T)) hr (by decide)) (pe_mkc (ok_NoCable_init T) hr (by decide) (by rfl) (pa_cons (pe_str) (pa_cons (pe_int) pa_nil))) (pe_mkc (ok_NoCable_init T) hr (by decide) (by rfl) (pa_cons (pe_str) (pa_cons (pe_int) pa_nil))) (nomark _)) (pw_or1 (pt_cmpR (op_eqO (ok_CableOf_eq T) (eqC T (by decide) (me_CableOf_eq T)) hr (by decide)) (pe_mkc (ok_CableOf_init T) hr (by decide) (by rfl) (pa_cons (pe_int) pa_nil)) (pe_mkc (ok_NoCable_init T) hr (by decide) (by rfl) (pa_cons (pe_int) (pa_cons (pe_int) pa_nil))) (nomark _)))))))) (pss_one (ps_ret (pe_bl))) pss_nil) (pss_cons (ps_set (i := 12) sc_law.nd rfl (Or.inr rfl) (pe_cl (ok_law_pick T) hr (by decide) (by rfl) (pa_cons (pv 1) (pa_cons (pe_lst (pa_cons (pe_non) (pa_cons (pe_int) (pa_cons (pe_str) (pa_cons (pe_lst (pa_cons (pe_tup (pa_cons (pe_int) (pa_cons (pe_int) pa_nil))) (pa_cons (pe_non) pa_nil))) (pa_cons (pe_lst (pa_cons (pe_tup (pa_cons (pe_int) (pa_cons (pe_int) (pa_cons (pe_int) pa_nil)))) pa_nil)) (pa_cons (pe_lst (pa_cons (pe_lst (pa_cons (pe_int) (pa_cons (pe_int) pa_nil))) pa_nil)) (pa_cons (pe_lst (pa_cons (pe_tup (pa_cons (pe_int) (pa_cons (pe_bl) pa_nil))) pa_nil)) (pa_cons (pe_op op_rep (pe_lst (pa_cons (pe_tup (pa_cons (pe_int) (pa_cons (pe_int) pa_nil))) pa_nil)) (pe_int)) pa_nil))))))))) pa_nil)))) (pss_cons (ps_asg (pe_tup (pa_cons (pe_cl (ok_law_pick T) hr (by decide) (by rfl) (pa_cons (pv 1) (pa_cons (pe_lst (pa_cons (pe_non) (pa_cons (pe_int) (pa_cons (pe_str) (pa_cons (pe_lst (pa_cons (pe_non) pa_nil)) pa_nil))))) pa_nil))) (pa_cons (pe_cl (ok_law_pick T) hr (by decide) (by rfl) (pa_cons (pv 1) (pa_cons (pe_lst (pa_cons (pe_lst pa_nil) (pa_cons (pe_lst (pa_cons (pe_int) (pa_cons (pe_int) pa_nil))) (pa_cons (pe_tup (pa_cons (pe_int) (pa_cons (pe_int) pa_nil))) pa_nil)))) pa_nil))) pa_nil))) (pg_tup rfl (pgs_cons (pg_name (i := 13) sc_law.nd rfl (Or.inr rfl)) (pgs_cons (pg_name (i := 14) sc_law.nd rfl (Or.inr rfl)) pgs_nil)))) (pss_cons (ps_set (i := 10) sc_law.nd rfl (Or.inl rfl) (pe_lst (pa_cons (pe_tup (pa_cons (pe_lamb TB hcode (List.mem_singleton.mpr rfl) (fun p hp _ => by rw [List.mem_singleton.mp hp]) (lamS_by (sc := defScope s_law) (by decide +kernel)) rfl) (pa_cons (pe_tup (pa_cons (pe_str) (pa_cons (pe_callB (call_reprD hg0 (hu64 hr)) (by rfl) (m_repr T) boot_repr (pa_cons (pv 12) pa_nil)) pa_nil))) pa_nil))) (pa_cons (pe_tup (pa_cons (pe_lamb TB hcode (List.mem_singleton.mpr rfl) (fun p hp _ => by rw [List.mem_singleton.mp hp]) (lamS_by (sc := defScope s_law) (by decide +kernel)) rfl) (pa_cons (pe_tup (pa_cons (pe_str) (pa_cons (pe_callB (call_reprD hg0 (hu64 hr)) (by rfl) (m_repr T) boot_repr (pa_cons (pv 12) pa_nil)) pa_nil))) pa_nil))) (pa_cons (pe_tup (pa_cons (pe_lamb TB hcode (List.mem_singleton.mpr rfl) (fun p hp _ => by rw [List.mem_singleton.mp hp]) (lamS_by (sc := defScope s_law) (by decide +kernel)) rfl) (pa_cons (pe_tup (pa_cons (pe_str) (pa_cons (pe_callB (call_reprD hg0 (hu64 hr)) (by rfl) (m_repr T) boot_repr (pa_cons (pv 13) pa_nil)) pa_nil))) pa_nil))) (pa_cons (pe_tup (pa_cons (pe_lamb TB hcode (List.mem_singleton.mpr rfl) (fun p hp _ => by rw [List.mem_singleton.mp hp]) (lamS_by (sc := defScope s_law) (by decide +kernel)) rfl) (pa_cons (pe_tup (pa_cons (pe_str) (pa_cons (pe_clX (ok_settle_character T) hr (by decide) (passes_call (takes_of rfl rfl rfl rfl) (fun _ _ _ _ h => h)) (by rfl) (pa_cons (pv 14) pa_nil)) pa_nil))) pa_nil))) pa_nil)))))) (pss_one (ps_ret (pe_cmpR (op_eqD (hu64 hr)) (pe_lcE (own := [("call", 16), ("due", 17)]) (g := gTup K 2 (gCons (gName 16) (gCons (gName 17) gNil))) (tt := fun σ => tCaught w K mg (LX w K mg base cdv A outer s H E) σ) (te := fun _ => tC (.int 1)) rfl sc_law.nd (pi_any (pv 10)) (blkOk_by (N := N_law) (sc := defScope s_law) (by decide +kernel)) (fun _ _ _ _ _ => pg_tup rfl (pgs_cons (pg_name (i := 16) sc_law.nd rfl (Or.inl rfl)) (pgs_cons (pg_name (i := 17) sc_law.nd rfl (Or.inl rfl)) pgs_nil))) (fun σ s1 H1 C cl fp ent => pts_one (pt_caught T hr hg0 ent rfl (.inl rfl) (.inl rfl))) (fun _ _ _ _ _ _ _ => pe_int)) (pe_lst pa_nil) (nomark _)))))))))), ?_⟩
  obtain ⟨a, ns0, rfl, sq, hPt, hQ⟩ := h
  refine q_asgCall (ea1 (ev_var rfl)) fun H1 e1 => ⟨a, ns0, rfl, ex_l e1 sq, fun p l H2 e2 np pn => ?_⟩
  have L0 : LS Pt p l 0 H2 := ⟨pn, (e1.trans e2) _ _ hPt⟩
  refine q_cut (M := fun σ' H' => ∃ (x2 x3 x4 x5 x6 x7 x8 x9 x10 x11 : Option V), σ' = [some (.ref a), some (.ref p), x2, x3, x4, x5, x6, x7, x8, x9, x10, x11, none, none, none, none, none, none] ∧ LS Pt p l 300 H') ?_ ?_
  · refine s_forR1 (ea1 ev_c) ⟨by decide, by decide⟩ (fun i σ' H' => ∃ (x2 x3 x4 x5 x6 x7 x8 x9 x10 x11 : Option V), σ' = [some (.ref a), some (.ref p), x2, x3, x4, x5, x6, x7, x8, x9, x10, x11, none, none, none, none, none, none] ∧ LS Pt p l (100 * i) H') (fun H3 e3 => ⟨none, none, none, none, none, none, none, none, none, none, rfl, L0.ex e3⟩) (fun lap σ' H3 hlap ⟨x2, x3, x4, x5, x6, x7, x8, x9, x10, x11, es, L3⟩ => ?_) (fun σ' H3 ⟨x2, x3, x4, x5, x6, x7, x8, x9, x10, x11, es, L3⟩ => ⟨x2, x3, x4, x5, x6, x7, x8, x9, x10, x11, es, L3⟩)
    subst es
    have hlap' : lap < 3 := by omega
    -- row
    refine q_asgCall (ea1 (ev_var rfl)) fun H4 e4 => ⟨p, l, _, rfl, (L3.ex e4).pen, by omega, fun ns rv H5 hns x5' pn5 hrv => ?_⟩
    have L5 : LS Pt p l (100 * lap + 1) H5 := (L3.ex e4).x x5' pn5
    have hr := row_ok hns
    have ok := okRow_iff hr.ok
    have hl5 := ok.len
    -- told
    refine q_asgCC (ea2 (ev_var rfl) (ev_var rfl)) fun H6 e6 => ⟨p, l, _, true, rv, _, rfl, (L5.ex e6).pen, by omega, Dp.ex e6 hrv, fun v6 b6 H7 x7' pn7 hv6 => ⟨v6, _, rfl, hv6, by rw [items_seq, List.length_map]; omega, .inr (.inr ⟨b6, ns, rfl, hr.ok, fun tv H8 e8 htv => ?_⟩)⟩⟩
    have L7 : LS Pt p l (100 * lap + 2) H7 := (L5.ex e6).x x7' pn7
    have L8 := L7.ex e8
    have hrv8 : Dp K H8 rv (tupI ns) := Dp.ex e8 ((L5.ex e6).dp x7' (Dp.ex e6 hrv))
    obtain ⟨ra, rfl, rsq8⟩ := tup_ints_inv (ns := ns) hrv8
    -- told is as the law reckons
    have hcl : (cabOf ns).length ≤ 4 := by show (cabUp ns _).length ≤ 4; rw [cabUp_len]; omega
    obtain ⟨ta, txs, rfl, tsq8, tda8, tlen⟩ := cab_inv (b := true) htv
    refine q_when (b := !PyData.eqv (cabD true (cabOf ns)) (cabD true (cabOf ns)) || !PyData.eqv (.list []) (.list [])) (et_or (et_test (ep_neD (epD_var rfl htv) ((ep_tupleOf (b := false) (R := fun xs H1 => DpAll K H1 xs ((cabOf ns).map prD)) ((ep_call (ea1 (ev_var rfl)) (P := fun v H' => Dp K H' v (cabD false (cabOf ns))) fun H9 e9 Q q E => ⟨ra, ns, rfl, ex_t e9 rsq8, hr.ok, hr.pos, q⟩).imp fun v H9 _ hv => ?_) (fun _ _ _ e z => DpAll.ex e z)).imp fun v H9 _ ⟨q, ys, ev, hs', hy⟩ => ?_) shaped_cab shaped_cab)) (fun _ => et_test (ep_neD (d := .list []) (e := .list []) ?_ (epD_lst ead_nil (by decide)) (by decide) (by decide)))) (fun hb H9 e9 => ?_) (fun hb H9 e9 => ?_)
    · obtain ⟨q, xs, rfl, hs', hx⟩ := Dp.seq_inv hv
      exact ⟨q, xs, rfl, hs', hx⟩
    · subst ev
      exact Dp.tup hs' hy
    · refine (EvL.p (el_lcA (b := true) (fun _ => false) (fun _ => .non) (ev_var rfl) tsq8 (by rw [tlen]; omega) (fun _ => rfl) (fun i x H9 e9 hx => ?_) (fun i x H9 _ _ h => by cases h))).imp fun v H9 e9 ⟨q, ev, hq⟩ => ?_
      · obtain ⟨pp, cc, hp1, rfl, hcc⟩ := cab_at tda8 hx
        have hcc9 := ex_t e9 hcc
        exact et_is (et_or (a := !true) (b := false) (et_not (et_B (ev_isi (ev_var rfl) (.ty _) (TyX.t hcc9) (kit_ty (a := "tuple") (b := "tuple") (r := true) (by decide +kernel))))) (fun _ => et_B (ev_isi (ev_ixA (b := true) (i := 0) (ev_var rfl) ev_c hcc9 (atI_n (i := 0) rfl)) (.ty _) (.base (.int _)) (kit_ty (a := "int") (b := "bool") (r := false) (by decide +kernel))))) rfl
      · subst ev
        rw [given_none] at hq
        exact .lst (sq_of hq) .nil
    · rw [eqv_cab] at hb
      simp [PyData.eqv, PyData.eqvAll] at hb
    have L9 := L8.ex e9
    -- settling what is told
    refine q_ifCC (ea2 (ev_var rfl) (ev_var rfl)) fun H10 e10 => ⟨p, l, _, true, .ref ta, _, rfl, (L9.ex e10).pen, by omega, Dp.ex (e9.trans e10) htv, fun v10 b10 H11 x11' pn11 hv10 => ⟨v10, _, rfl, hv10, items_cab hcl, .inr ⟨b10, cabOf ns, rfl, hcl, small3_small hr.sm, fun av H12 e12 hav => ?_⟩⟩⟩
    have L11 : LS Pt p l (100 * lap + 3) H11 := (L9.ex e10).x x11' pn11
    have L12 := L11.ex e12
    rw [hr.ans] at hav
    obtain ⟨y1, dy1, yu, rfl, hy1, hyu⟩ := hav
    -- the row and what was told, so far on
    have rd12 : Dp K H12 (.ref ra) (tupI ns) := Dp.ex e12 ((L9.ex e10).dp x11' (Dp.ex (e9.trans e10) hrv8))
    have td12 : Dp K H12 (.ref ta) (cabD true (cabOf ns)) := Dp.ex e12 ((L9.ex e10).dp x11' (Dp.ex (e9.trans e10) htv))
    refine (ep_make (ea1 (ev_var rfl)) (mk_CableOf rd12)) H12 (Ex.refl _) _ fun cv H13 e13 ⟨cx, ecv, cdx, cu, hcx, hcu⟩ => ?_
    subst ecv
    refine rd_cab T (e13 _ _ hy1) hcx (Dp.ex e13 hyu) hcu (shaped_ints (b := true) (ns := ns)) (shaped_ints (b := true) (ns := ns)) fun H14 e14 => ⟨false, congrArg V.bl ?_, ?_⟩
    · show (!PyData.eqv (seqD true (ns.map PyData.int)) (seqD true (ns.map PyData.int))) = false
      rw [eqv_ints, decide_eq_true rfl]; rfl
    rw [if_neg Bool.false_ne_true]
    have L14 := L12.ex (e13.trans e14)
    have rd14 : Dp K H14 (.ref ra) (tupI ns) := Dp.ex (e13.trans e14) rd12
    have td14 : Dp K H14 (.ref ta) (cabD true (cabOf ns)) := Dp.ex (e13.trans e14) td12
    obtain ⟨ra', era, rsq14⟩ := tup_ints_inv (ns := ns) rd14
    cases era
    obtain ⟨ta', txs', eta, tsq14, tda14, tlen'⟩ := cab_inv (b := true) td14
    cases eta
    -- shares
    refine q_asgL (el_lshares (b := true) (ev_var rfl) rsq14 (by omega) hr.pos) fun sl H15 hsl0 e15 hsl => ?_
    have L15 := L14.ex e15
    have slen : (shares ns).length = ns.length := shGo_len ns 0
    -- generators
    refine q_when (b := !PyData.eqv (seqD false ((genA ns).map PyData.int)) (seqD false (((genOf ns).drop 1).map PyData.int))) (et_test (ep_neD ((EvL.p (el_lcEn (b := true) (a := ta) (xs := txs') (fun k => .int (aF ns (k + 1) * sS ns (k + 1))) (ea1 (ev_var rfl)) (ex_t e15 tsq14) (by rw [tlen']; omega) (fun _ _ => rfl) (fun k x H16 e16 hx => ?_))).imp fun v H16 _ ⟨q, ev, hq⟩ => ?_) ((EvL.p (el_slN (el_listP ((ep_call (ea1 (ev_var rfl)) (P := fun v H' => Dp K H' v (.tuple ((genOf ns).map PyData.int))) fun H16 e16 Q q E => ⟨.ref ra, true, ns, rfl, Dp.ex (e15.trans e16) rd14, hr.ok, q⟩).imp fun v H16 _ hv => tup_ints_inv (ns := genOf ns) hv)) (eo_some ev_c) eo_none)).imp fun v H16 _ ⟨q, ev, hq⟩ => ?_) shaped_ints shaped_ints)) (fun hb H16 e16 => ?_) (fun hb H16 e16 => ?_)
    · obtain ⟨pp, cc, hp1, rfl, hcc⟩ := cab_at (DpAll.ex (e15.trans e16) tda14) hx
      have hkl : k < ns.length - 1 := by
        have h1 := (List.getElem?_eq_some_iff.mp hp1).1
        have h2 : (cabOf ns).length = ns.length - 1 := cabUp_len ns _
        omega
      have epp : pp = (pF ns (k + 1), aF ns (k + 1)) := by
        have h1 : (cabOf ns)[k]? = some (pF ns (k + 1), aF ns (k + 1)) := by
          show ((List.range (ns.length - 1)).map _)[k]? = _
          rw [List.getElem?_map, List.getElem?_range hkl]; rfl
        rw [h1] at hp1
        exact (Option.some.inj hp1).symm
      subst epp
      have hb1 := ok.a (k + 1) (by omega)
      exact ev_op (x := .int (aF ns (k + 1))) (y := .int (sS ns (k + 1))) (ev_ixA (b := true) (i := 1) (ev_var rfl) ev_c hcc (atI_n (i := 1) rfl)) (ev_ixA (b := false) (i := ((k + 1 : Nat) : Int)) (ev_var rfl) (ev_is (ev_op (ev_var rfl) ev_c rv_I0) (by congr 1)) (sq_of (e16 _ _ hsl)) (atI_int (by omega))) (rv_I (cmul (.inl hb1)))
    · subst ev
      have eg : (List.range txs'.length).map (fun k => V.int (aF ns (k + 1) * sS ns (k + 1))) = (genA ns).map V.int := by
        have h2 : (cabOf ns).length = ns.length - 1 := cabUp_len ns _
        rw [tlen', h2]
        unfold genA
        rw [List.map_map]
        rfl
      rw [eg] at hq
      exact .lst (sq_of hq) DpAll.ints
    · subst ev
      rw [cut_drop1, ← List.map_drop] at hq
      exact .lst (sq_of hq) DpAll.ints
    · rw [eqv_ints, decide_eq_true hr.gen] at hb
      cases hb
    have L16 := L15.ex e16
    -- the cable
    refine q_asgL (el_listOf (b := true) (ev_var rfl) (ex_t (e15.trans e16) tsq14)) fun cl H17 hcl0 e17 hcl1 => ?_
    have L17 := L16.ex e17
    have nl : l ≠ cl := L16.nl hcl0
    have cda : DpAll K H17 txs' ((cabOf ns).map prD) := DpAll.ex ((e15.trans e16).trans e17) tda14
    have rd17 : Dp K H17 (.ref ra) (tupI ns) := Dp.ex ((e15.trans e16).trans e17) rd14
    refine q_cut (M := fun σ' H' => ∃ (x7' x8' x9' x10' x11' : Option V) (xs : List V) (ps : PL), σ' = [some (.ref a), some (.ref p), some (.int lap), some (.ref ra), some (.ref ta), some (.ref sl), some (.ref cl), x7', x8', x9', x10', x11', none, none, none, none, none, none] ∧ LS Pt p l (100 * lap + 6) H' ∧ H' cl = some (.lst xs) ∧ DpAll K H' xs (ps.map prD) ∧ ps.length ≤ 4 ∧ Small4 ps = true ∧ Dp K H' (.ref ra) (tupI ns)) ?_ ?_
    · refine s_when (b := decide ((0 : Int) < (lap : Nat)) && !PyData.eqv (cabD false (cabOf ns)) (.list [])) (et_and (et_test (ev_op (ev_var rfl) ev_c rv_I0)) (fun _ => et_test (ep_neD (epD_var rfl (Dp.seq (b := false) (sq_of hcl1) cda)) (epD_lst ead_nil (by decide)) shaped_cab (by decide)))) (fun hb H18 e18 => ?_) (fun _ H18 e18 => ?_)
      · have hne : 0 < (cabOf ns).length := by
          obtain ⟨_, hb2⟩ := ba hb
          rcases Nat.eq_zero_or_pos (cabOf ns).length with z | z
          · rw [List.eq_nil_of_length_eq_zero z] at hb2
            simp [cabD, seqD, PyData.eqv, PyData.eqvAll] at hb2
          · exact z
        refine q_asgCall (ea2 (ev_var rfl) (ev_is (ev_lenA (b := false) (ev_var rfl) (sq_of (e18 _ _ hcl1))) (by rw [tlen']))) fun H19 e19 => ⟨p, l, _, _, rfl, by omega, by omega, ((L17.ex e18).ex e19).pen, by omega, fun kk H20 k0 k1 x20 pn20 => ?_⟩
        have L19 := (L17.ex e18).ex e19
        have L20 := L19.x x20 pn20
        obtain ⟨j, rfl⟩ : ∃ j : Nat, kk = (j : Int) := ⟨kk.toNat, by omega⟩
        have hj : j < (cabOf ns).length := by omega
        have hcl20 : H20 cl = some (.lst txs') := L19.lst x20 ((e18.trans e19) _ _ hcl1)
        have hda20 : DpAll K H20 txs' ((cabOf ns).map prD) := L19.dpA x20 (DpAll.ex (e18.trans e19) cda)
        have hrd20 : Dp K H20 (.ref ra) (tupI ns) := L19.dp x20 (Dp.ex (e18.trans e19) rd17)
        obtain ⟨c20, hx20, hc20⟩ := cab_at' hda20 hj
        have hsp := small3_at hr.sm j
        refine rd_addpick (ds := [0, 0, 1, -1, -3]) (x := ((cabOf ns).getD j (0, 0)).1) L20 (by omega) (by decide) (by decide) (ev_ixA (b := true) (i := 0) (ev_ixA (b := false) (i := (j : Int)) (ev_var rfl) (ev_var rfl) (sq_of hcl20) (atI_n hx20)) ev_c hc20 (atI_n (i := 0) rfl)) (ev_var rfl) (el_lst (ea_cons ev_c (ea_cons ev_c (ea_cons ev_c (ea_cons (ev_un ev_c ru_neg) (ea_cons (ev_un ev_c ru_neg) ea_nil))))) (by decide)) fun d1 H21 hd1 x21 pn21 => ?_
        have L21 := L20.x x21 pn21
        have hcl21 : H21 cl = some (.lst txs') := L20.lst x21 hcl20
        have hda21 : DpAll K H21 txs' ((cabOf ns).map prD) := L20.dpA x21 hda20
        have hrd21 : Dp K H21 (.ref ra) (tupI ns) := L20.dp x21 hrd20
        obtain ⟨c21, hx21, hc21⟩ := cab_at' hda21 hj
        refine rd_addpick (ds := [1, 2, -1, -5, 10]) (x := ((cabOf ns).getD j (0, 0)).2) L21 (by omega) (by decide) (by decide) (ev_ixA (b := true) (i := 1) (ev_ixA (b := false) (i := (j : Int)) (ev_var rfl) (ev_var rfl) (sq_of hcl21) (atI_n hx21)) ev_c hc21 (atI_n (i := 1) rfl)) (ev_var rfl) (el_lst (ea_cons ev_c (ea_cons ev_c (ea_cons (ev_un ev_c ru_neg) (ea_cons (ev_un ev_c ru_neg) (ea_cons ev_c ea_nil))))) (by decide)) fun d2 H22 hd2 x22 pn22 => ?_
        have L22 := L21.x x22 pn22
        have hcl22 : H22 cl = some (.lst txs') := L21.lst x22 hcl21
        have hda22 : DpAll K H22 txs' ((cabOf ns).map prD) := L21.dpA x22 hda21
        have hrd22 : Dp K H22 (.ref ra) (tupI ns) := L21.dp x22 hrd21
        have b1 : -3 ≤ d1 ∧ d1 ≤ 1 := by simp at hd1; omega
        have b2 : -5 ≤ d2 ∧ d2 ≤ 10 := by simp at hd2; omega
        refine ⟨by show 2 ≤ sizeLine; decide, fun t ht => ?_⟩
        have e23 : Ex H22 (upd H22 t (.tup [.int (((cabOf ns).getD j (0, 0)).1 + d1), .int (((cabOf ns).getD j (0, 0)).2 + d2)])) := Ex.new ht
        have hcl23 := e23 _ _ hcl22
        refine ⟨_, rfl, _, rfl, cl, txs', (j : Int), j, rfl, rfl, hcl23, ixN_nat (by omega), ?_⟩
        have q23 : Dp K (upd H22 t (.tup [.int (((cabOf ns).getD j (0, 0)).1 + d1), .int (((cabOf ns).getD j (0, 0)).2 + d2)])) (.ref t) (prD (((cabOf ns).getD j (0, 0)).1 + d1, ((cabOf ns).getD j (0, 0)).2 + d2)) := pair_of (st_of upd_same)
        refine ⟨_, _, _, _, _, txs'.set j (.ref t), (cabOf ns).set j (((cabOf ns).getD j (0, 0)).1 + d1, ((cabOf ns).getD j (0, 0)).2 + d2), rfl, ((L22.ex e23).upd hcl23 nl).mono (by omega), upd_same, ?_, by rw [List.length_set]; exact hcl, small4_set (small3_4 hr.sm) ⟨by omega, by omega⟩ ⟨by omega, by omega⟩, dp_rows hcl23 ExX.upd (Dp.ex e23 hrd22)⟩
        refine prs_X hcl23 ExX.upd ?_
        rw [List.map_set]
        exact DpAll.set (DpAll.ex e23 hda22) q23
      · exact ⟨_, _, _, _, _, txs', cabOf ns, rfl, (L17.ex e18).mono (by omega), e18 _ _ hcl1, DpAll.ex e18 cda, hcl, small3_4 hr.sm, Dp.ex e18 rd17⟩
    · rintro σ' H18 ⟨x7', x8', x9', x10', x11', xs, ps, rfl, L18, hcl18, hda18, hps4, hsm18, rd18⟩
      refine q_cut (M := fun σ' H' => ∃ (cl : Addr) (x7' x8' x9' x10' x11' : Option V) (xs : List V) (ps : PL), σ' = [some (.ref a), some (.ref p), some (.int lap), some (.ref ra), some (.ref ta), some (.ref sl), some (.ref cl), x7', x8', x9', x10', x11', none, none, none, none, none, none] ∧ LS Pt p l (100 * lap + 8) H' ∧ H' cl = some (.lst xs) ∧ DpAll K H' xs (ps.map prD) ∧ ps.length ≤ 4 ∧ Small4 ps = true ∧ Dp K H' (.ref ra) (tupI ns)) ?_ ?_
      · refine s_when (b := decide ((1 : Int) < (lap : Nat))) (et_test (ev_op (ev_var rfl) ev_c rv_I0)) (fun _ H19 e19 => ?_) (fun _ H19 e19 => ?_)
        · refine ⟨.ref cl, rfl, ?_⟩
          have L19 := L18.ex e19
          refine rd_adddraw (m := 2) (x := 2) L19 (by omega) (by decide) (by decide) ev_c (ev_var rfl) ev_c fun d1 H20 d10 d11 x20 pn20 => ?_
          have L20 := L19.x x20 pn20
          refine rd_adddraw (m := 90) (x := 3) L20 (by omega) (by decide) (by decide) ev_c (ev_var rfl) ev_c fun d2 H21 d20 d21 x21 pn21 => ?_
          have L21 := L20.x x21 pn21
          have hcl21 : H21 cl = some (.lst xs) := L20.lst x21 (L19.lst x20 (e19 _ _ hcl18))
          have hda21 : DpAll K H21 xs (ps.map prD) := L20.dpA x21 (L19.dpA x20 (DpAll.ex e19 hda18))
          have hrd21 : Dp K H21 (.ref ra) (tupI ns) := L20.dp x21 (L19.dp x20 (Dp.ex e19 rd18))
          have hxl : xs.length = ps.length := by rw [DpAll.length hda21, List.length_map]
          refine ⟨by show 2 ≤ sizeLine; decide, fun t ht => ⟨by show 1 ≤ sizeLine; decide, fun u hu => ⟨cl, u, xs, [.ref t], rfl, rfl, (Ex.new hu) _ _ ((Ex.new ht) _ _ hcl21), upd_same, by rw [hxl]; show ps.length + 1 ≤ sizeLine; exact Nat.le_trans (show ps.length + 1 ≤ 5 by omega) (by decide), fun q hq => ⟨4, rfl, q, _, rfl, sq_of upd_same, fun r hr' => ?_⟩⟩⟩⟩
          have E : Ex H21 (upd (upd (upd (upd H21 t (.tup [.int (2 + d1), .int (3 + d2)])) u (.lst [.ref t])) q (.lst (xs ++ [.ref t]))) r (.lst (cutV (xs ++ [.ref t]) none (some 4)))) := (((Ex.new ht).trans (Ex.new hu)).trans (Ex.new hq)).trans (Ex.new hr')
          have qt : Dp K (upd (upd (upd (upd H21 t (.tup [.int (2 + d1), .int (3 + d2)])) u (.lst [.ref t])) q (.lst (xs ++ [.ref t]))) r (.lst (cutV (xs ++ [.ref t]) none (some 4)))) (.ref t) (prD (2 + d1, 3 + d2)) := Dp.ex (((Ex.new hu).trans (Ex.new hq)).trans (Ex.new hr')) (pair_of (st_of upd_same))
          refine ⟨r, _, _, _, _, _, _, (ps ++ [(2 + d1, 3 + d2)]).take 4, rfl, (L21.ex E).mono (by omega), upd_same, ?_, by rw [List.length_take]; exact Nat.min_le_left _ _, small4_take hsm18 ⟨by omega, by omega⟩ ⟨by omega, by omega⟩, Dp.ex E hrd21⟩
          rw [List.map_take, List.map_append]
          exact dpA_cut4 (DpAll.snoc (DpAll.ex E hda21) qt)
        · exact ⟨cl, _, _, _, _, _, xs, ps, rfl, (L18.ex e19).mono (by omega), e19 _ _ hcl18, DpAll.ex e19 hda18, hps4, hsm18, Dp.ex e19 rd18⟩
      · rintro σ' H19 ⟨cl, x7', x8', x9', x10', x11', xs, ps, rfl, L19, hcl19, hda19, hps4, hsm19, rd19⟩
        have hsm := small4_small hsm19
        have hcd19 : Dp K H19 (.ref cl) (cabD false ps) := Dp.seq (b := false) (sq_of hcl19) hda19
        -- the answer
        refine q_asgCC (ea2 (ev_var rfl) (ev_var rfl)) fun H20 e20 => ⟨p, l, _, false, .ref cl, _, rfl, (L19.ex e20).pen, by omega, Dp.ex e20 hcd19, fun v20 b20 H21 x21 pn21 hv20 => ⟨v20, _, rfl, hv20, items_cab hps4, .inr ⟨b20, ps, rfl, hps4, hsm, fun av H22 e22 hav => ?_⟩⟩⟩
        have L21 : LS Pt p l (100 * lap + 9) H21 := (L19.ex e20).x x21 pn21
        have L22 := L21.ex e22
        have hcd22 : Dp K H22 (.ref cl) (cabD false ps) := Dp.ex e22 ((L19.ex e20).dp x21 (Dp.ex e20 hcd19))
        have rd22 : Dp K H22 (.ref ra) (tupI ns) := Dp.ex e22 ((L19.ex e20).dp x21 (Dp.ex e20 rd19))
        have hoka := okAn_ans hps4
        have hclL : H22 cl = some (.lst xs) := e22 _ _ ((L19.ex e20).lst x21 (e20 _ _ hcl19))
        have hdaL : DpAll K H22 xs (ps.map prD) := DpAll.ex e22 ((L19.ex e20).dpA x21 (DpAll.ex e20 hda19))
        have dueN : ∀ {H23 : Hp} {σ : L2.St} {tc ta2 : TE}, Ex H22 H23 → Ev tc σ H23 (.ref cl) → Ev ta2 σ H23 av → Ev (tCall (sp_law_due K) [] E0 (tCons tc (tCons ta2 tNil))) σ H23 .non := fun {H23 σ tc ta2} e h1 h2 => EvP.ev ((ep_call (P := fun v H' => Dp K H' v (faultOf ps (ansOf ps))) (ea2 h1 h2) fun H24 e24 Q q E => ⟨.ref cl, av, false, ps, ansOf ps, rfl, Dp.ex (e.trans e24) hcd22, hps4, hsm, AnA.ex (e.trans e24) hav, hoka, q⟩).imp fun v H24 _ hv => by rw [fault_ans] at hv; cases hv; rfl)
        have faultN : ∀ {H23 : Hp} {σ : L2.St} {tc ta2 : TE} {E : XK}, Ex H22 H23 → Ev tc σ H23 (.ref cl) → Ev ta2 σ H23 av → Ev (tCall (sp_cable_fault K) [] E (tCons tc (tCons ta2 tNil))) σ H23 .non := fun {H23 σ tc ta2 E} e h1 h2 => EvP.ev ((ep_call (P := fun v H' => Dp K H' v (faultOf ps (ansOf ps))) (ea2 h1 h2) fun H24 e24 Q q E => ⟨.ref cl, av, _, rfl, Dp.ex (e.trans e24) hcd22, items_cab hps4, .inr ⟨false, ps, ansOf ps, rfl, hps4, hsm, AnA.ex (e.trans e24) hav, hoka, q⟩⟩).imp fun v H24 _ hv => by rw [fault_ans] at hv; cases hv; rfl)
        refine q_when (b := (!decide (V.non = V.non)) || ((!decide (V.non = V.non)) || !true)) (et_or (et_test (ev_notN (dueN (Ex.refl _) (ev_var rfl) (ev_var rfl)))) (fun _ => et_or (et_test (ev_notN (faultN (Ex.refl _) (ev_var rfl) (ev_var rfl)))) (fun _ => et_not (et_eqAn T (ev_var rfl) hav (ep_callP (P := fun u H' => AnA K u H' (ansOf ps)) (eap1 (EvL.p (el_listOf (b := false) (ev_var rfl) (sq_of hclL)))) fun vs H23 e23 ⟨v, hv, lq, hlq, hlq2⟩ => ?_))))) (fun hb H23 e23 => ?_) (fun _ H23 e23 => ?_)
        · subst hv hlq
          exact fun H24 e24 Q q E => ⟨.ref lq, _, rfl, Dp.seq (b := false) (sq_of (e24 _ _ hlq2)) (DpAll.ex (e23.trans e24) hdaL), items_cab hps4, .inr ⟨false, ps, rfl, hps4, hsm, q⟩⟩
        · rw [decide_eq_true rfl] at hb; cases hb
        have L23 := L22.ex e23
        have hav23 := AnA.ex e23 hav
        refine q_when (b := isCab (ansOf ps) && !true) (et_and (et_B (ev_isCab T (ev_var rfl) hav23)) (fun hc => et_not (et_B (ev_rowT T (ev_var rfl) hav23 hc)))) (fun hb H24 e24 => ?_) (fun _ H24 e24 => ?_)
        · rw [Bool.not_true, Bool.and_false] at hb; cases hb
        have L24 := L23.ex e24
        have hav24 := AnA.ex e24 hav23
        -- the bends
        refine s_forR1 (ea1 ev_c) ⟨by decide, by decide⟩ (fun j σ' H' => ∃ (x9 x10 x11 : Option V), σ' = [some (.ref a), some (.ref p), some (.int lap), some (.ref ra), some (.ref ta), some (.ref sl), some (.ref cl), x7', some av, x9, x10, x11, none, none, none, none, none, none] ∧ LS Pt p l (100 * lap + 9 + j) H' ∧ AnA K av H' (ansOf ps) ∧ Dp K H' (.ref cl) (cabD false ps) ∧ Dp K H' (.ref ra) (tupI ns)) (fun H25 e25 => ⟨_, _, _, rfl, L24.ex e25, AnA.ex e25 hav24, Dp.ex ((e23.trans e24).trans e25) hcd22, Dp.ex ((e23.trans e24).trans e25) rd22⟩) (fun j σ' H25 hj ⟨x9, x10, x11, es, L25, hav25, hcd25, rd25⟩ => ?_) (fun σ' H25 ⟨x9, x10, x11, es, L25, hav25, hcd25, rd25⟩ => ⟨_, _, _, _, _, _, _, _, _, _, es, L25.mono (by omega)⟩)
        · subst es
          have hj' : j < 4 := by omega
          have dcl : ∀ {H' : Hp} {σ : L2.St} {tc ta2 : TE} {o : V} {an : An}, Dp K H' (.ref cl) (cabD false ps) → AnA K o H' an → okAn an → Ev tc σ H' (.ref cl) → Ev ta2 σ H' o → EvP (tCall (sp_law_due K) [] E0 (tCons tc (tCons ta2 tNil))) σ H' (fun v H2 => Dp K H2 v (faultOf ps an)) := fun {H' σ tc ta2 o an} hc ho hk h1 h2 => ep_call (ea2 h1 h2) fun H1 e1 Q q E => ⟨.ref cl, o, false, ps, an, rfl, Dp.ex e1 hc, hps4, hsm, AnA.ex e1 ho, hk, q⟩
          have fcl : ∀ {H' : Hp} {σ : L2.St} {tc ta2 : TE} {o : V} {an : An} {E : XK}, Dp K H' (.ref cl) (cabD false ps) → AnA K o H' an → okAn an → Ev tc σ H' (.ref cl) → Ev ta2 σ H' o → EvP (tCall (sp_cable_fault K) [] E (tCons tc (tCons ta2 tNil))) σ H' (fun v H2 => Dp K H2 v (faultOf ps an)) := fun {H' σ tc ta2 o an E} hc ho hk h1 h2 => ep_call (ea2 h1 h2) fun H1 e1 Q q E => ⟨.ref cl, o, _, rfl, Dp.ex e1 hc, items_cab hps4, .inr ⟨false, ps, an, rfl, hps4, hsm, AnA.ex e1 ho, hk, q⟩⟩
          obtain ⟨ra2, era2, rsq25⟩ := tup_ints_inv (ns := ns) rd25
          cases era2
          refine q_asgP (P := SomeA K 9) ((ep_lst (PA := AllP [AnyA K, AnyA K, AnyA K, AnyA K, AnyA K, AnyA K, AnyA K, AnyA K, AnyA K]) (eal_cons monA (ea_cabP (r := some ns) (d := tupI ns) (epD_var rfl rd25) rfl (show ns.length ≤ 1000 by omega)) (eal_cons monA (ea_cabP (r := some (rowOf ps)) (d := .tuple ((rowOf ps).map PyData.int)) (ep_lrow (ev_var rfl) hcd25 hsm hps4) rfl (show (rowOf ps).length ≤ 1000 by rw [rowOf_len]; omega)) (eal_cons monA (ea_cabP (r := none) (d := .none) epD_non rfl True.intro)
            (eal_cons monA (ea_cabP (r := some ns) (d := .list (ns.map PyData.int)) ((EvL.p (el_listOf (b := true) (ev_var rfl) rsq25)).imp fun v H26 _ ⟨q, ev, hq⟩ => ev ▸ Dp.lst (sq_of hq) DpAll.ints) rfl (show ns.length ≤ 1000 by omega)) (eal_cons monA (ea_no (s := some "less") (i := .inl 0) ev_c ev_c (.str _) (.int _)) (eal_cons monA (ea_no (s := some "p") (i := .inl 0) ev_c ev_c (.str _) (.int _)) (eal_cons monA (ea_no (s := some "share") (i := .inr true) ev_c ev_c (.str _) (.bl _)) (eal_cons monA ea_non (eal_cons monA ea_five eal_nil))))))))) (fun vs H1 h => by rw [h.1]; show (9 : Nat) ≤ 100000; decide) (fun vs H1 H2 e h => AllP.ex (fun P hP => by simp at hP; rw [hP]; exact monA) e h)).imp fun v H26 _ ⟨q, vs, ev, hq, hall⟩ => ⟨q, vs, ev, hq, by rw [hall.1]; show (0 : Nat) < 9; decide, by rw [hall.1]; show (9 : Nat) ≤ 9; decide, allA hall (fun P hP => by simpa using hP)⟩) fun sv H26 e26 hsv => ?_
          have L26 := L25.ex e26
          have hav26 := AnA.ex e26 hav25
          refine q_cut (M := fun σ' H' => ∃ (sv' : V) (x9 x11 : Option V), σ' = [some (.ref a), some (.ref p), some (.int lap), some (.ref ra), some (.ref ta), some (.ref sl), some (.ref cl), x7', some av, x9, some sv', x11, none, none, none, none, none, none] ∧ Ex H26 H' ∧ SomeA K 12 sv' H') ?_ ?_
          · refine s_when (et_B (ev_isNo T (ev_var rfl) hav26)) (fun hno H27 e27 => ?_) (fun _ H27 e27 => ?_)
            · cases hbr : brOf ps with
              | none =>
                have ea : ansOf ps = .cab (some (rowOf ps)) := by unfold ansOf; rw [hbr]
                rw [ea] at hno; cases hno
              | some pr =>
                obtain ⟨s', i'⟩ := pr
                have ea : ansOf ps = .no (some s') (.inl i') := by unfold ansOf; rw [hbr]
                have hav27 := AnA.ex e27 hav26
                rw [ea] at hav27
                obtain ⟨ay, ady, w1, w2, rfl, hay, hw1, hw2⟩ := hav27
                cases hw2
                obtain ⟨q, vs, rfl, hq, h1, h2, h3⟩ := hsv
                have why : ∀ {σ : L2.St} {te : TE}, Ev te σ H27 (.ref ay) → Ev (tFld K te "why") σ H27 w1 := fun {σ te} h => ev_fld h hay (c_NoCable T) (n_NoCable_why T) rfl
                have idx : ∀ {σ : L2.St} {te : TE}, Ev te σ H27 (.ref ay) → Ev (tFld K te "index") σ H27 (.int i') := fun {σ te} h => ev_fld h hay (c_NoCable T) (n_NoCable_index T) rfl
                refine s_asgP (ep_cat2 (R := AllP [AnyA K, AnyA K, AnyA K]) (ev_var rfl) (e27 _ _ hq) (ep_lst (PA := AllP [AnyA K, AnyA K, AnyA K]) (eal_cons monA (ea_no (s := some s') (i := .inl i') (why (ev_var rfl)) (idx (ev_var rfl)) hw1 (.int _)) (eal_cons monA (ea_no (s := some s') (i := .inl (i' + 1)) (why (ev_var rfl)) (ev_op (idx (ev_var rfl)) ev_c rv_I0) hw1 (.int _)) (eal_cons monA (ea_no (s := none) (i := .inl i') ev_c (idx (ev_var rfl)) .non (.int _)) eal_nil))) (fun vs H1 h => by rw [h.1]; show (3 : Nat) ≤ 100000; decide) (fun vs H1 H2 e h => AllP.ex (fun P hP => by simp at hP; rw [hP]; exact monA) e h)) (fun vs' H1 h => by rw [h.1]; show vs.length + 3 ≤ 100000; omega) (fun vs H1 H2 e h => AllP.ex (fun P hP => by simp at hP; rw [hP]; exact monA) e h)) fun v H28 e28 ⟨q2, vs2, ev, hq2, hall⟩ => ?_
                refine ⟨v, _, _, rfl, e27.trans e28, q2, vs ++ vs2, ev, hq2, by rw [List.length_append]; omega, ?_, fun x hx => ?_⟩
                · rw [List.length_append, hall.1]; show vs.length + 3 ≤ 12; omega
                · rcases List.mem_append.mp hx with z | z
                  · exact monA _ _ _ (e27.trans e28) (h3 x z)
                  · exact allA hall (fun P hP => by simpa using hP) x z
            · obtain ⟨q, vs, rfl, hq, h1, h2, h3⟩ := hsv
              exact ⟨_, _, _, rfl, e27, q, vs, rfl, e27 _ _ hq, h1, by omega, fun x hx => monA _ _ _ e27 (h3 x hx)⟩
          · rintro σ' H27 ⟨sv', x9', x11', rfl, e27, sa, svs, rfl, hsa, h1, h2, h3⟩
            have L27 := L26.ex e27
            refine q_asgCall (ea2 (ev_var rfl) (ev_var rfl)) fun H28 e28 => ⟨p, l, _, false, sa, svs, rfl, (L27.ex e28).pen, by omega, sq_of (e28 _ _ hsa), h1, by omega, fun k ov H29 hk x29 pn29 => ?_⟩
            obtain ⟨an, han, hoan⟩ := monA _ _ _ e28 (h3 ov (List.mem_of_getElem? hk))
            have L29 := (L27.ex e28).x x29 pn29
            have han29 := (L27.ex e28).an x29 han
            have hav29 := (L27.ex e28).an x29 (AnA.ex (e27.trans e28) hav26)
            have hcd29 : Dp K H29 (.ref cl) (cabD false ps) := (L27.ex e28).dp x29 (Dp.ex ((e26.trans e27).trans e28) hcd25)
            have rd29 : Dp K H29 (.ref ra) (tupI ns) := (L27.ex e28).dp x29 (Dp.ex ((e26.trans e27).trans e28) rd25)
            obtain ⟨fs, fe⟩ := fault_shaped ps an
            refine s_when (b := !PyData.eqv (faultOf ps an) (faultOf ps an)) (et_test (ep_neD (fcl hcd29 han29 hoan (ev_var rfl) (ev_var rfl)) (dcl hcd29 han29 hoan (ev_var rfl) (ev_var rfl)) fs fs)) (fun hb H30 e30 => ?_) (fun _ H30 e30 => ?_)
            · rw [fe] at hb; cases hb
            · exact ⟨_, _, _, rfl, (L29.ex e30).mono (by omega), AnA.ex e30 hav29, Dp.ex e30 hcd29, Dp.ex e30 rd29⟩
  · rintro σ' H3 ⟨x2, x3, x4, x5, x6, x7, x8, x9, x10, x11, rfl, L3⟩
    have c1 : EvP (tC (.int 1)) [some (.ref a), some (.ref p), x2, x3, x4, x5, x6, x7, x8, x9, x10, x11, none, none, none, none, none, none] H3 (fun v H1 => Dp K H1 v (.int 1)) := epD_int
    refine q_when (et_or (et_cabs T (neg := true) (ep_cabW (d := .list [.int 1]) (epD_lst (ead_cons c1 ead_nil) (by decide))) (ep_cabW (d := .tuple [.int 1]) (epD_tup (ead_cons c1 ead_nil) (by decide))) (by decide) (by decide)) (fun _ => et_or (et_cabs T (neg := false) (ep_cabW (d := .tuple [.int 1]) (epD_tup (ead_cons c1 ead_nil) (by decide))) (ep_cabW (d := .tuple [.int 2]) (epD_tup (ead_cons epD_int ead_nil) (by decide))) (by decide) (by decide)) (fun _ => et_or (et_nos T (neg := true) (ep_noW (d1 := .str "p") (d2 := .int 1) ev_c ev_c (.str _) (.int _)) (ep_noW (d1 := .str "p") (d2 := .int 1) ev_c ev_c (.str _) (.int _)) (shaped_si (by decide +kernel)) (shaped_si (by decide +kernel))) (fun _ => et_or (et_nos T (neg := false) (ep_noW (d1 := .str "p") (d2 := .int 1) ev_c ev_c (.str _) (.int _)) (ep_noW (d1 := .str "p") (d2 := .int 2) ev_c ev_c (.str _) (.int _)) (shaped_si (by decide +kernel)) (shaped_si (by decide +kernel))) (fun _ => et_cabno T (ep_cabW (d := .int 1) c1) (ep_noW (d1 := .int 1) (d2 := .int 1) ev_c ev_c (.int _) (.int _))))))) (fun hb H4 e4 => ?_) (fun _ H4 e4 => ?_)
    · simp [PyData.eqv, PyData.eqvAll, tupD] at hb
    have L4 := L3.ex e4
    refine rd_pick L4 (by omega) (by decide) (by decide) (ev_var rfl) ep_bads fun bd bv H5 hbd x5 pn5 hbv => ?_
    have L5 := L4.x x5 pn5
    refine rd_pick L5 (by omega) (by decide) (by decide) (ev_var rfl) ep_odds fun od ov H6 hod x6 pn6 hov => ?_
    have L6 := L5.x x6 pn6
    refine rd_pick L6 (by omega) (by decide) (by decide) (ev_var rfl) ep_wrongs fun wd wv H7 hwd x7 pn7 hwv => ⟨by show 2 ≤ sizeLine; decide, fun t ht => ⟨t, _, rfl, st_of upd_same, rfl, _, _, rfl, _, _, rfl, rfl, ?_⟩⟩
    have e7 : Ex H7 (upd H7 t (.tup [ov, wv])) := Ex.new ht
    have tab8 := (L6.x x7 pn7).ex e7
    have bad8 : Dp K (upd H7 t (.tup [ov, wv])) bv bd := Dp.ex e7 (L6.dp x7 (L5.dp x6 hbv))
    have odd8 : Dp K (upd H7 t (.tup [ov, wv])) ov od := Dp.ex e7 (L6.dp x7 hov)
    have wro8 : Dp K (upd H7 t (.tup [ov, wv])) wv wd := Dp.ex e7 hwv
    have tab9 := tab8.tab
    generalize upd H7 t (.tup [ov, wv]) = H8 at bad8 odd8 wro8 tab9
    have tabs : Tabs [(Pt, (LX w K mg base cdv A outer s H E).env.qual ++ "<lambda>")] H8 := fun p hp => by rw [List.mem_singleton.mp hp]; exact TabS.nil tab9
    obtain ⟨shb, ngb, szb⟩ := bad_ok hbd
    obtain ⟨sho, nio⟩ := odd_ok hod
    obtain ⟨wb, wns, ws, wi, ewd, wl, wbr, wso⟩ := wrong_ok hwd
    have rowE : ∀ {te : TE} {v : V} {d : PyData} {σ : L2.St}, Ev te σ (noTbl H8) v → Dp K H8 v d → Shown d → EvM [(Pt, (LX w K mg base cdv A outer s H E).env.qual ++ "<lambda>")] (tTup (tCons (tC (.str "row")) (tCons (tCB (rRepr K) (tCons te tNil)) tNil))) σ H8 (fun v1 H1 => Dp K H1 v1 (.tuple [.str "row", .str d.shown])) := fun {te v d σ} h hd sh =>
      em_p (epD_tup (ead_cons epD_str (ead_cons (epDs (ev_repr h (Dp.tbl hd) sh.s sh.h sh.dp sh.l)) ead_nil)) (by show 2 ≤ 100000; decide)) monN_D
    have chE : ∀ {te : TE} {σ : L2.St} {E' : XK}, Ev te σ (noTbl H8) wv → EvM [(Pt, (LX w K mg base cdv A outer s H E).env.qual ++ "<lambda>")] (tTup (tCons (tC (.str "characters")) (tCons (tCall (sp_settle_character K) [] E' (tCons te tNil)) tNil))) σ H8 (TupN [fun v _ => v = .str "characters", fun v H => ChA K v H (some (ws, wi))]) := fun {te σ E'} h =>
      em_tup (eam_cons (em_p (P := fun v _ => v = .str "characters") (Ev.p ev_c) (fun _ _ _ _ h => h)) (eam_cons (em_p (ep_call (ea1 h) fun H1 e1 Q q E => ⟨wv, wd, rfl, Dp.ex e1 (Dp.tbl wro8), by rw [ewd, items_seq, List.length_map]; omega, fun hn => absurd hn (by rw [ewd, isInts_seq]; exact Bool.noConfusion), fun b ns ed v H2 e2 hv => q v H2 e2 (by
        have en : ns = wns := ints_inj (ewd.symm.trans ed)
        rw [en, wbr] at hv
        exact hv)⟩) monN_ch) eam_nil)) (by show 2 ≤ 100000; decide)
    refine q_asgN (em_lst (eam_cons (em_tup (eam_cons em_lam (eam_cons (rowE (ev_var rfl) bad8 shb) eam_nil)) (by show 2 ≤ 100000; decide)) (eam_cons (em_tup (eam_cons em_lam (eam_cons (rowE (ev_var rfl) bad8 shb) eam_nil)) (by show 2 ≤ 100000; decide)) (eam_cons (em_tup (eam_cons em_lam (eam_cons (rowE (ev_var rfl) odd8 sho) eam_nil)) (by show 2 ≤ 100000; decide)) (eam_cons (em_tup (eam_cons em_lam (eam_cons (chE (ev_var rfl)) eam_nil)) (by show 2 ≤ 100000; decide)) eam_nil)))) (by show 4 ≤ 100000; decide)) tabs fun sv H9 e9 hsv => ?_
    obtain ⟨sa, svs, rfl, hsa, hlen, hall⟩ := hsv
    have bad9 : Dp K H9 bv bd := monN_D _ _ _ e9 bad8
    have odd9 : Dp K H9 ov od := monN_D _ _ _ e9 odd8
    have wro9 : Dp K H9 wv wd := monN_D _ _ _ e9 wro8
    refine s_retP (P := fun v _ => v = .bl true) (Ev.p (ep_eqD (d := .list []) (e := .list []) ((EvL.p (el_lcF (b := false) (ev_var rfl) (sq_of hsa) (by rw [hlen]; show 4 ≤ 40000; decide) (fun i x H10 e10 hx R hR => rd_elem ?_ e10 hR))).imp fun v H10 _ ⟨q, ev, hq⟩ => by
      subst ev
      exact .lst (sq_of hq) .nil) (epD_lst ead_nil (by decide)) (by decide) (by decide))) fun v H10 e10 ev => ?_
    · have hi : i < 4 := by have h := (List.getElem?_eq_some_iff.mp hx).1; rw [hlen] at h; exact h
      match i, hi with
      | 0, _ => exact elem_row shb bad9 (hall 0 x _ hx rfl) fun f c hf hco B hB H1 e E' hE => lam_el hB (i := 12) (x := "bad") rfl rfl rfl rfl (fun y h => free2 h) ⟨rfl, rfl, rfl, by decide⟩ (e _ _ hf) (e _ _ hco) (fun _ _ _ _ => rfl) (fun cl A outer s hr' hg' => pe_clX (ok_settle_cable (w := w) ⟨T.says, hB.mod.kin, hB.mod.glob⟩) hr' (by decide) (passes_call (takes_of rfl rfl rfl rfl) (fun _ _ _ _ h => h)) (by rfl) (pa_cons (pv 0) pa_nil)) ⟨bv, rfl, bv, bd, rfl, Dp.ex e bad9, szb, .inl ⟨ngb, hE⟩⟩
      | 1, _ => exact elem_row shb bad9 (hall 1 x _ hx rfl) fun f c hf hco B hB H1 e E' hE => lam_el hB (i := 12) (x := "bad") rfl rfl rfl rfl (fun y h => free2 h) ⟨rfl, rfl, rfl, by decide⟩ (e _ _ hf) (e _ _ hco) (fun _ _ _ _ => rfl) (fun cl A outer s hr' hg' => pe_clX (ok_cable_fault (w := w) ⟨T.says, hB.mod.kin, hB.mod.glob⟩) hr' (by decide) (passes_call (takes_of rfl rfl rfl rfl) (fun _ _ _ _ h => h)) (by rfl) (pa_cons (pv 0) (pa_cons pe_non pa_nil))) ⟨bv, rfl, bv, .non, bd, rfl, Dp.ex e bad9, szb, .inl ⟨ngb, hE⟩⟩
      | 2, _ => exact elem_row sho odd9 (hall 2 x _ hx rfl) fun f c hf hco B hB H1 e E' hE => lam_el hB (i := 13) (x := "odd") rfl rfl rfl rfl (fun y h => free2 h) ⟨rfl, rfl, rfl, by decide⟩ (e _ _ hf) (e _ _ hco) (fun _ _ _ _ => rfl) (fun cl A outer s hr' hg' => pe_clX (ok_cable_row (w := w) ⟨T.says, hB.mod.kin, hB.mod.glob⟩) hr' (by decide) (passes_call (takes_of rfl rfl rfl rfl) (fun _ _ _ _ h => h)) (by rfl) (pa_cons (pv 0) pa_nil)) ⟨ov, rfl, ov, od, rfl, Dp.ex e odd9, sho.i, .inl ⟨nio, hE⟩⟩
      | 3, _ => exact elem_ch wso (hall 3 x _ hx rfl) fun f c hf hco B hB H1 e E' hE => lam_el hB (i := 14) (x := "wrong") rfl rfl rfl rfl (fun y h => free2 h) ⟨rfl, rfl, rfl, by decide⟩ (e _ _ hf) (e _ _ hco) (fun _ _ _ _ => rfl) (fun cl A outer s hr' hg' => pe_clX (ok_cable_row (w := w) ⟨T.says, hB.mod.kin, hB.mod.glob⟩) hr' (by decide) (passes_call (takes_of rfl rfl rfl rfl) (fun _ _ _ _ h => h)) (by rfl) (pa_cons (pv 0) pa_nil)) ⟨wv, rfl, wv, wd, rfl, Dp.ex e wro9, by rw [ewd, items_seq, List.length_map]; omega, .inr (.inl ⟨wb, wns, (ws, wi), ewd, wbr, hE⟩)⟩
    · subst ev
      exact hQ H10
end
end K41
set_option maxHeartbeats 0
/-! What the end asks. -/
namespace K41
open PySem PySem.Spec PyProof.Rows L2 He TC Evl LamX
theorem facts {w : World} {K : PySem.W.Frag} {h : Heap} {mg : Str → Option Value} {f : Addr} (X : K.In h) (G : h.Ns mainGlobals mg) (hfa : mg ("law" : Str) = some (.ref f)) (c : SaysZ fa fn er tf ex h K) :
    ∃ (fd : FuncData) (co T : Addr), h.get? T = some { cls := .none, data := .fields #[] } ∧ K.lookup T = none ∧ PySem.W.CodeHd h co T ∧ (∀ (s : Shared) (u : Value), BindsTo s fd ⟨[u], []⟩ [("script", u)]) ∧
      ∀ base : Heap, K.In base → base.Ns mainGlobals mg → TabB base mg co T → FnG PP w K mg base (L2.CX PP w) 14 f fd ["script"] (sp_law K T) := by
  have W : Wk h K mg h := ⟨c, X, G⟩
  obtain ⟨fd, F⟩ := f_law W
  have e := hfa.symm.trans (g_law W)
  cases e
  have m : (("law", none) : Defn) ∈ tf := by simp [tf]
  have b := FunD.bindsA (ps := ["script"]) F fun _ _ _ _ _ _ us hl => match us, hl with | [_], _ => rfl
  exact ⟨fd, _, _, c.empty _ m, c.out _ m, PySem.W.codeHd_of_K X (c.hd _ m), fun s v => b s [v] rfl, fun base KB GB TB => ok_law ⟨c, KB, GB⟩ TB rfl F⟩
end K41
set_option maxHeartbeats 0
open PySem PySem.W PySem.Calls PyProof.Rows
theorem PySem.Challenge.cw_touchcurves_k41_whole_cables_holds : PySem.Challenge.rw_touchcurves_k41_whole_cables.Holds := by
  w_on; o_law
  refine HandSHeadRun.head_imp (r := OpenLaw.row PySem.Challenge.rw_touchcurves_k41_whole_cables) (q := view (OpenLaw.row PySem.Challenge.rw_touchcurves_k41_whole_cables).prog [0, 58]) (H := K41.hk) (ob := K41.ob) (M := 15000) (loose := K41.names) (d := HandSHeadRun.topDef (OpenLaw.row PySem.Challenge.rw_touchcurves_k41_whole_cables).prog 58) (kwd := []) K41.ob_eq K41.run
    (by kernel_rfl) (by kernel_rfl) (by kernel_rfl) (by rfl) (by first | assumption | decide +kernel) (by decide +kernel) ⟨rfl, rfl, rfl, rfl, rfl, by decide +kernel⟩ ?hw ?hc
  case hw => w_witness2
  case hc =>
    refine TC.walk_G (l := PySem.Challenge.rw_touchcurves_k41_whole_cables) (n := 63) (k := 14) (x := "script") (CX := fun w => L2.CX K41.PP w) rfl (by decide) (by kernel_rfl) ⟨rfl, by decide, by decide⟩ ?F ?hCX
    case hCX =>
      intro w H s e s' z
      obtain ⟨_, _, _, _, _, _, _, _, _, _, _, _, y⟩ := z
      exact False.elim y
    case F =>
      intro w mg fa h Y G hmg0
      obtain ⟨K, KX, c⟩ := Y
      have hmg : mg ("law" : PySem.Str) = some (.ref fa) := by
        have e : (HandSHeadRun.topDef (OpenLaw.row PySem.Challenge.rw_touchcurves_k41_whole_cables).prog 58).name = ("law" : PySem.Str) := by kernel_rfl
        rw [← e]
        exact hmg0
      obtain ⟨fd, co, T, h1, h2, h3, hb, hF⟩ := K41.facts (w := w) KX G hmg c
      exact ⟨K, fd, co, T, K41.sp_law K T, KX, h1, h2, h3, hb, fun H a ns hl hT hS => ⟨a, ns, rfl, hS, hT, fun _ => rfl⟩, hF⟩
