import PyProof.Rows.All
import Wide.All
import OpenK.AllK
import Wide.FinOn
import HandS.ForMost
import HandS.ForExc
import HandS.ExcSuper
import HandS.ExcInit
import HandS.ExcField
import HandS.TryMany
import KE.KSuper
import KE.KExcSuper
import HandS.Wide
import HandS.TupAny
import HandS.Ends
import KE.RegKSuper
import PySem.Challenge.RW_readslittle_k00_errors
set_option Elab.async false
set_option linter.all false
set_option maxRecDepth 100000
set_option maxHeartbeats 400000
/-! Errors of two floors: a base over ValueError with place and name, and classes over it that change the name. -/
namespace PySem
namespace Bel
open PySem.W PySem.Calls PyProof.Rows PySem.HandSPX
/-! ### the texts -/
def aA (p1 p2 : Pos) : Arguments := { posonlyargs := [], args := [{ arg := "self", annotation := none, pos := p1 }, { arg := "place", annotation := none, pos := p2 }], vararg := none, kwonlyargs := [], kw_defaults := [], kwarg := none, defaults := [] }
def supE (p1 p2 p3 p4 p5 : Pos) : Expr := .Call (.Attribute (.Call (.Name "super" p1) [] [] p2) "__init__" p3) [.Name "place" p4] [] p5
def placeS (p1 p2 p3 p4 : Pos) : Stmt := .Assign [.Attribute (.Name "self" p1) "place" p2] (.Name "place" p3) p4
def nameS (z : Str) (p1 p2 p3 p4 : Pos) : Stmt := .Assign [.Attribute (.Name "self" p1) "name" p2] (.Constant (.str z) 0 p3) p4
def bB (z : Str) (a1 a2 a3 a4 a5 a6 b1 b2 b3 b4 c1 c2 c3 c4 : Pos) : List Stmt := [.Expr (supE a1 a2 a3 a4 a5) a6, placeS b1 b2 b3 b4, nameS z c1 c2 c3 c4]
def cB (z : Str) (a1 a2 a3 a4 a5 a6 c1 c2 c3 c4 : Pos) : List Stmt := [.Expr (supE a1 a2 a3 a4 a5) a6, nameS z c1 c2 c3 c4]
def sB : Scope := { kind := .function, names := [(PySem.Str.ofString "self", .local), (PySem.Str.ofString "place", .local), (PySem.Str.ofString "__class__", .free), (PySem.Str.ofString "super", .globalImplicit)], isGenerator := false, isCoroutine := false, more := [] }

/-- an __init__ of the class at D, by its text: it closes over the cell of D -/
structure SupTxt (K : Frag) (file : Str) (D f : Addr) (qual : Str) (body : List Stmt) (cc cda : Addr) (cdv : Value) (p1 p2 : Pos) : Prop where
  fn : ∃ (oc : Value) (od : Option Addr) (doc pm ct : Value) (an : Option Addr) (osl : Array (Option Value)),
    K.lookup f = some ⟨oc, od, .func (ksFn "__init__" qual (aA p1 p2) body sB .none .none doc pm an cdv ct cc), osl⟩
  ecd : cdv = .ref cda
  code : codeIn K cdv qual = true
  cfile : ∃ (ccl : Value) (cdd : Option Addr) (vs : Array Value) (ccs : Array (Option Value)) (tf : Tok), K.lookup cda = some ⟨ccl, cdd, .fields vs, ccs⟩ ∧ vs[2]? = some (.str file tf)
  cell : ∃ (cl : Value) (cld : Option Addr) (csl : Array (Option Value)), K.lookup cc = some ⟨cl, cld, .cell (some (.ref D)), csl⟩
  isC : ∃ cd, clsIn K D = some cd

section
variable {prog : Program} {w : World} {A : Around} {E : Value → Shared → Prop} {s : Shared} {K : Frag} {mg : Str → Option Value} {base : Heap}

/-- super() in such a def -/
theorem sup_base {D f cc cda x C L : Addr} {qual : Str} {body : List Stmt} {cdv : Value} {q1 q2 p0 p1 : Pos} {attr : Str} {whole : Sem Value} {m : Str → Option Value} {ox : Obj} {odx : Option Obj} {Q : Value → Shared → Prop}
    (T : SupTxt K prog.main.file D f qual body cc cda cdv q1 q2) (M : L2.Mod K mg base) (hb : ∀ b o, base.get? b = some o → s.heap.get? b = some o) (hm : mg "super" = none)
    (htop : (prog.main.scope.names.lookup ("super" : Str)).isSome = false) (hn : s.heap.Ns L m) (hv : m "self" = some (.ref x)) (I : InstAt s.heap x ox C odx) (hsub : mroIn K C (.ref D) = some true)
    (hat : (attr == ("__class__" : Str)) = false)
    (h : ∀ h', (∀ b o, s.heap.get? b = some o → h'.get? b = some o) → h'.get? s.heap.objs.size = some (ks_superObj D x C) → Q (.ref s.heap.objs.size) { s with heap := h' }) :
    _root_.PySem.wpAt (model prog w) A (.func body (ksEnv qual sB L f cdv cc)) (attributeBase (.Call (.Name "super" p0) [] [] p1) attr (ksEnv qual sB L f cdv cc) whole) Q E s := by
  obtain ⟨oc, od, doc, pm, ct, an, osl, hf⟩ := T.fn
  obtain ⟨ccl, cdd, vs, ccs, tf, hcode, hvs⟩ := T.cfile
  obtain ⟨cl, cld, csl, hcell⟩ := T.cell
  obtain ⟨cdD, hD⟩ := T.isC
  have X : K.In s.heap := M.kin.keeps hb
  obtain ⟨mb, hmb, hbl⟩ := M.blt
  obtain ⟨hh, g, d, t, os⟩ := s
  obtain ⟨oD, hD1, hD2⟩ : ∃ oD, hh.get? D = some oD ∧ oD.data = .cls cdD := by
    unfold clsIn at hD
    split at hD
    · rename_i c d cd' sl ho
      cases hD
      exact ⟨_, X _ _ ho, rfl⟩
    · cases hD
  have ecd := T.ecd
  subst ecd
  refine ks_wpAt_super_base (env := ksEnv qual sB L f (.ref cda) cc) rfl rfl hat rfl (X _ _ hf) rfl rfl rfl (X _ _ hcode) rfl hvs (by simp) htop ?_
  refine ks_loadName_global rfl rfl (loadGlobal_builtin (env := ksEnv qual sB L f (.ref cda) cc) (M.glob.keeps hb) hm (hmb.keeps hb) ((hbl _ (by decide +kernel)).trans (by first | rfl | kernel_rfl)) ⟨rfl, ?_⟩)
  refine wpAny_loadName_free rfl rfl rfl ⟨_, X _ _ hcell, rfl⟩ ?_
  refine wpAny_loadName_local rfl rfl hn hv ?_
  refine ks_wpAny_isType_cls hD1 hD2 ⟨rfl, ?_⟩
  refine ks_wpAny_call_super hD1 hD2 I.at_ I.cls (fun c e => ?_) (looks_mroIn X hsub) (fun h' e k => h h' k e)
  have z := I.no
  unfold notCls at z
  rw [e] at z
  exact Bool.noConfusion z
end

/-! ### the built-in __init__, bound -/
section
variable {prog : Program} {w : World} {A : Around} {E : Value → Shared → Prop} {h : Heap} {g : Array GenState} {d : Drawn} {t : Nat} {os : OsState}
theorem mw_call {nm q : Str} {C N : Addr} {bs bm : List Value} {hdct : Bool} {sn : List Str} {sub : List Value} {ab : Bool} {col : Option Bool} {dd : Option Addr} {k0 k1 k2 k3 k5 : Option Value} {u e t0 : Addr} {rest : List Value} {Q : Value → Shared → Prop}
    (hC : h.get? C = some (excClassObj nm q C N bs bm hdct sn sub ab col dd k0 k1 k2 k3 k5 "ValueError.__new__")) (he : h.get? e = some (excO C t0)) (hu : h.get? u = some (kxs_mw "ValueError.__init__" e)) (hrest : rest.length ≤ sizeLine)
    (hq : ∀ h' t1, (∀ b o, b ≠ e → h.get? b = some o → h'.get? b = some o) → h'.get? e = some (excO C t1) → Q .none ⟨h', g, d, t, os⟩) :
    wpAny (model prog w) A (call (.ref u) rest) Q E ⟨h, g, d, t, os⟩ := by
  refine wpAny_call (codeAny_of_tree ?_)
  show wpAny (model prog w) (Around.in1 A) (callAny (Value.ref u) ⟨rest, []⟩) _ _ _
  unfold callAny
  refine wpAny_bind (wpAny_load hu ?_)
  refine W.KFB.if_so (show (Value.type "method-wrapper" == Value.type "method" || Value.type "method-wrapper" == Value.type "builtin_function_or_method" || Value.type "method-wrapper" == Value.type "method-wrapper") = true from by decide) ?_
  refine wpAny_bind (ESX.check_bound _root_.PySem.F.excBase_ValueError hC he rfl ?_)
  refine wpAny_bind (wpAny_pure (wpAny_pure ⟨Code.quiet_builtin _ (by decide +kernel), codeAny_builtin _root_.PySem.F.excBase_ValueError.initEntry ?_⟩))
  rw [Around.under_plainId _root_.PySem.F.excBase_ValueError.init.plain _]
  wp_walk
  refine hq _ h.objs.size (fun b o nb ob => ?_) ?_
  · rw [Heap.get?_update_other _ _ (fun z => nb z.symm)]
    exact Heap.get?_push_of_some _ ob
  · rw [Heap.get?_update_self _ (Heap.get?_push_of_some _ he) rfl] <;> rfl
end

/-! ### the two __init__ -/
/-- what the written part says of an error class -/
structure ExTxt (K : Frag) (C B : Addr) : Prop where
  cls : ∃ nm q N bs bm sn sub ab col dd k0 k1 k2 k3 k5, K.lookup C = some (excClassObj nm q C N bs bm true sn sub ab col dd k0 k1 k2 k3 k5 "ValueError.__new__") ∧ refsVE bm = true
  sa : findIn K (.ref C) "__setattr__" = some (some (.builtin "object.__setattr__"))
  noP : findIn K (.ref C) "place" = some none
  noN : findIn K (.ref C) "name" = some none
  below : mroIn K C (.ref B) = some true
  sup : ks_superIn K C B "__init__" = some (some (.builtin "ValueError.__init__"))
  isV : subIn K (.ref C) (.type "ValueError") = some true
/-- what an __init__ leaves of a fresh error at x -/
structure InitEnd (h h' : Heap) (x C dx : Addr) (z : Str) (v : Value) : Prop where
  keep : ∀ b o, b ≠ x → h.get? b = some o → h'.get? b = some o
  obj : ∃ t1 : Addr, h'.get? x = some { cls := .ref C, dict := some dx, data := .fields #[.ref t1, .none, .none, .none, .bool false, .none] }
  dbig : h.objs.size ≤ dx
  dne : dx ≠ x
  ns : ∃ tk : Tok, h'.Ns1 dx (fun y => if y = "name" then some (.str z tk) else if y = "place" then some v else none)
section
variable {prog : Program} {w : World} {A : Around} {E : Value → Shared → Prop} {R : Result → Shared → Prop} {s : Shared} {K : Frag} {mg : Str → Option Value} {base : Heap}
theorem ev_sup {p1 p2 p3 p4 p5 : Pos} {env : Env} (he : (p3.endLine == p5.line) = true) : eval (supE p1 p2 p3 p4 p5) env = (do
      let ov ← attributeBase (.Call (.Name "super" p1) [] [] p2) "__init__" env (eval (.Call (.Name "super" p1) [] [] p2) env)
      standAt p3.atName
      let (f, first) ← holding [ov] (getMethod ov "__init__" (do return (← importBound (.Call (.Name "super" p1) [] [] p2) env).getD true))
      callWith p5 f first (backTo p5 (starEach [.Name "place" p4] env)) []) := by
  have e : eval (supE p1 p2 p3 p4 p5) env = (do
      let ov ← attributeBase (.Call (.Name "super" p1) [] [] p2) "__init__" env (eval (.Call (.Name "super" p1) [] [] p2) env)
      standAt p3.atName
      methodCall (.Call (.Name "super" p1) [] [] p2) "__init__" p3 p5 env ov 1 (backTo p5 (starEach [.Name "place" p4] env)) []) := rfl
  rw [e]
  have mp : methodCallPos true (.Call (.Name "super" p1) [] [] p2) env p3 p5 = pure p5 := by
    unfold methodCallPos
    rw [he]
    rfl
  have m : ∀ ov, methodCall (.Call (.Name "super" p1) [] [] p2) "__init__" p3 p5 env ov 1 (backTo p5 (starEach [.Name "place" p4] env)) [] = (do
      let (f, first) ← holding [ov] (getMethod ov "__init__" (do return (← importBound (.Call (.Name "super" p1) [] [] p2) env).getD true))
      callWith p5 f first (backTo p5 (starEach [.Name "place" p4] env)) []) := by
    intro ov
    show (do
      let (f, first) ← holding [ov] (getMethod ov "__init__" (do return (← importBound (.Call (.Name "super" p1) [] [] p2) env).getD true))
      let callPos ← methodCallPos true (.Call (.Name "super" p1) [] [] p2) env p3 p5
      callWith callPos f first (backTo p5 (starEach [.Name "place" p4] env)) []) = _
    rw [mp]
    rfl
  simp only [m]
theorem ldK {M : Model} {q : Str} {L f cc : Addr} {cdv : Value} {m : Str → Option Value} {x : Str} {pos : Pos} {v : Value} {Q : Value → Shared → Prop} (hn : s.heap.Ns L m) (hv : m x = some v) (h : Q v s)
    (hl : (ksEnv q sB L f cdv cc).kindOf x = some .local := by rfl) (hd : (x == ("__debug__" : Str)) = false := by decide) : wpAny M A (eval (.Name x pos) (ksEnv q sB L f cdv cc)) Q E s :=
  wpAny_Name (wpAny_loadName_local rfl hl hn hv h) hd
theorem clsIn_of {K : Frag} {nm q : Str} {C N : Addr} {bs bm : List Value} {sn : List Str} {sub : List Value} {ab : Bool} {col : Option Bool} {dd : Option Addr} {k0 k1 k2 k3 k5 : Option Value} {n : String}
    (hC : K.lookup C = some (excClassObj nm q C N bs bm true sn sub ab col dd k0 k1 k2 k3 k5 n)) :
    clsIn K C = some { name := nm, bases := bs, mro := .ref C :: bm, ns := N, qualname := q, hasDict := true, slotNames := sn, subclasses := sub, abstract := ab, collection := col, hasDel := false } := by
  unfold clsIn
  rw [hC] <;> rfl
theorem one_fits (v : Value) : [v].length ≤ sizeLine := by
  rw [sizeLine_eq]
  exact (by decide : 1 ≤ 16777216)

theorem bel_init {B f cc cda x C t0 : Addr} {qual z : Str} {cdv v : Value} {q1 q2 a1 a2 a3 a4 a5 a6 b1 b2 b3 b4 c1 c2 c3 c4 : Pos}
    (T : SupTxt K prog.main.file B f qual (bB z a1 a2 a3 a4 a5 a6 b1 b2 b3 b4 c1 c2 c3 c4) cc cda cdv q1 q2) (M : L2.Mod K mg base) (hb : ∀ b o, base.get? b = some o → s.heap.get? b = some o) (hm : mg "super" = none)
    (htop : (prog.main.scope.names.lookup ("super" : Str)).isSome = false) (hop : nsIn K cStatics "thirdparty.any" = some none) (XC : ExTxt K C B) (hlim : s.heap.NoLimit)
    (hx : s.heap.get? x = some (excO C t0)) (hbx : base.get? x = none) (hroom : A.depth < recursionLimit) (hpos : (a3.endLine == a5.line) = true)
    (hq : ∀ h' tk dx, InitEnd s.heap h' x C dx z v → R (.ok (.ret .none)) { s with heap := h', toks := tk }) :
    codeAny (model prog w) A (.call (.ref f) ⟨[.ref x, v], []⟩) R s := by
  obtain ⟨oc, od, doc, pm, ct, an, osl, hf⟩ := T.fn
  obtain ⟨nm, q, N, bs, bm, sn, sub, ab, col, dd, k0, k1, k2, k3, k5, hC, hbm⟩ := XC.cls
  have hcl := clsIn_of hC
  have X : K.In s.heap := M.kin.keeps hb
  refine ks_codeAny_call_defAt (fd := ksFn "__init__" qual (aA q1 q2) (bB z a1 a2 a3 a4 a5 a6 b1 b2 b3 b4 c1 c2 c3 c4) sB .none .none doc pm an cdv ct cc) (body := bB z a1 a2 a3 a4 a5 a6 b1 b2 b3 b4 c1 c2 c3 c4)
    (binds := [("self", .ref x), ("place", v)]) hroom (X _ _ hf) rfl hlim (codeRec_of X T.code) rfl (BindsTo.of_eq rfl) (by show ∀ x ∈ sB.names, x.2 ≠ .cell; decide) (locs rfl) (fun h₀ hns hk => ?_)
  have hxL : x ≠ s.heap.objs.size := Nat.ne_of_lt (Heap.lt_size hx)
  have X0 : K.In h₀ := X.keeps hk
  have hb0 : ∀ b o, base.get? b = some o → h₀.get? b = some o := fun b o e => hk b o (hb b o e)
  have hx0 := hk _ _ hx
  have vs : (fun y => ([(("self" : Str), Value.ref x), ("place", v)] : List (Str × Value)).reverse.lookup y) "self" = some (.ref x) := by first | rfl | with_unfolding_all rfl | kernel_rfl
  have vp : (fun y => ([(("self" : Str), Value.ref x), ("place", v)] : List (Str × Value)).reverse.lookup y) "place" = some v := by first | rfl | with_unfolding_all rfl | kernel_rfl
  have I0 : InstAt h₀ x (excO C t0) C none := ⟨hx0, rfl, rfl, trivial⟩
  refine ks_wpAt_execs_cons (ks_wpAt_Expr_any (ks_wpAt_MethodCall ?_ (ev_sup hpos)))
  refine sup_base (s := { s with heap := h₀, toks := s.toks + 2 }) T M hb0 hm htop hns vs I0 XC.below (by decide) fun h1 k1' e1 => ?_
  have X1 : K.In h1 := X0.keeps k1'
  have hx1 := k1' _ _ hx0
  have I1 : InstAt h1 x (excO C t0) C none := ⟨hx1, rfl, rfl, trivial⟩
  have hsup := XC.sup
  unfold ks_superIn at hsup
  rw [hcl] at hsup
  refine kxs_getMethod kxs_ValueError e1 (looks_opaque X1 hop) (l₀ := .ref C :: bm) (fun A Q E s k q => wpAny_bind ((looks_clsIn X1 hcl) A _ E s k (wpAny_pure q))) rfl X1 hsup (I1.type.andThen (looks_subIn X1 XC.isV)) (ks_ne X1 I1 hcl) (by decide) ?_
  have hu : (h1.push (kxs_mw "ValueError.__init__" x)).get? h1.objs.size = some (kxs_mw "ValueError.__init__" x) := Heap.get?_push_at rfl rfl
  have k2' : ∀ b o, h1.get? b = some o → (h1.push (kxs_mw "ValueError.__init__" x)).get? b = some o := fun b o e => Heap.get?_push_of_some _ e
  have kk2 : ∀ b o, h₀.get? b = some o → (h1.push (kxs_mw "ValueError.__init__" x)).get? b = some o := fun b o e => k2' b o (k1' b o e)
  have hx2 := k2' _ _ hx1
  have ns2 := hns.keeps kk2
  refine kxs_callWith (i := "ValueError.__init__") (x := x) rfl (evalArgs_plain (spliced_cons (ldK ns2 vp (spliced_nil ⟨hu, ?_⟩))))
  refine mw_call ((X1.keeps k2') _ _ hC) hx2 hu (one_fits v) fun h3 t1 k3' hx3 => ?_
  have nLx : s.heap.objs.size ≠ x := fun e => hxL e.symm
  have nsk : ∀ {h' : Heap}, (∀ b o, b ≠ x → (h1.push (kxs_mw "ValueError.__init__" x)).get? b = some o → h'.get? b = some o) → h'.Ns s.heap.objs.size (fun y => ([(("self" : Str), Value.ref x), ("place", v)] : List (Str × Value)).reverse.lookup y) := fun {h'} k => by
    obtain ⟨o, es, ep, ho, r⟩ := ns2
    exact ⟨o, es, ep, k _ _ nLx ho, r⟩
  have ns3 := nsk k3'
  have bx : ∀ b o, base.get? b = some o → b ≠ x := fun b o e z => by rw [z, hbx] at e; cases e
  have X3 : K.In h3 := M.kin.keeps fun b o e => k3' b o (bx b o e) (kk2 b o (hb0 b o e))
  -- self.place = place
  refine ks_wpAt_execs_cons (wpAt_of_wpAny (plainObj_wpAny_Assign_Attribute ?_))
  refine ldK ns3 vp (ldK ns3 vs ?_)
  refine set_plain X3 (ox := excO C t1) (od := none) ⟨hx3, rfl, rfl, trivial⟩ XC.sa ?_
  refine exc_osa X3 hx3 hcl (show refsVE (.ref C :: bm) = true from hbm) rfl XC.noP (fun h4 tk4 dx k4 dn dne hx4 hn4 => ?_)
  have k4' : ∀ b o, b ≠ x → (h1.push (kxs_mw "ValueError.__init__" x)).get? b = some o → h4.get? b = some o := fun b o nb e => k4 b o nb (k3' b o nb e)
  have ns4 := nsk k4'
  have X4 : K.In h4 := M.kin.keeps fun b o e => k4' b o (bx b o e) (kk2 b o (hb0 b o e))
  have dxL : s.heap.objs.size < h3.objs.size := by
    obtain ⟨o, _, _, ho, _⟩ := ns3
    exact Heap.lt_size ho
  -- self.name = z
  refine ks_wpAt_execs_cons (wpAt_of_wpAny (plainObj_wpAny_Assign_Attribute ?_))
  refine wpAny_Constant_str (ldK ns4 vs ?_)
  obtain ⟨oD, esD, epD, hoD, hdD, hcD⟩ := hn4.count (ns := ["place"]) (fun y hy => by
    have hy' : (if y = "place" then some v else none) ≠ none := hy
    by_cases e : y = "place"
    · rw [e]
      exact List.mem_cons_self
    · rw [if_neg e] at hy'
      exact absurd rfl hy')
  refine set_plain X4 (ox := { cls := .ref C, dict := some dx, data := .fields #[.ref t1, .none, .none, .none, .bool false, .none] }) (od := some oD) ⟨hx4, rfl, rfl, hoD⟩ XC.sa ?_
  refine PySem.OEX.osa_old (nl := ["place"]) X4 hx4 hn4 (fun y hy => by
    have hy' : (if y = "place" then some v else none) ≠ none := hy
    by_cases e : y = "place"
    · rw [e]
      exact List.mem_cons_self
    · rw [if_neg e] at hy'
      exact absurd rfl hy') (by decide) hcl (show refsVE (.ref C :: bm) = true from hbm) rfl XC.noN (fun h5 tk5 k5' hn5 => ?_)
  have kD : s.heap.objs.size ≤ dx := Nat.le_of_lt (Nat.lt_of_lt_of_le dxL dn)
  refine wpAt_of_wpAny (wpAny_execs_nil (hq h5 tk5 dx ⟨fun b o nb e => ?_, ⟨t1, (k5' x _ (fun e => dne e.symm) hx4)⟩, kD, dne, ⟨_, hn5⟩⟩))
  exact k5' b o (Nat.ne_of_lt (Nat.lt_of_lt_of_le (Heap.lt_size e) kD)) (k4' b o nb (kk2 b o (hk b o e)))

theorem sub_init {B fB ccB cdaB C f cc cda x t0 : Addr} {qB zB qual z : Str} {cdB cdv v : Value} {r1 r2 u1 u2 u3 u4 u5 u6 b1 b2 b3 b4 w1 w2 w3 w4 q1 q2 a1 a2 a3 a4 a5 a6 c1 c2 c3 c4 : Pos}
    (TB : SupTxt K prog.main.file B fB qB (bB zB u1 u2 u3 u4 u5 u6 b1 b2 b3 b4 w1 w2 w3 w4) ccB cdaB cdB r1 r2)
    (T : SupTxt K prog.main.file C f qual (cB z a1 a2 a3 a4 a5 a6 c1 c2 c3 c4) cc cda cdv q1 q2) (M : L2.Mod K mg base) (hb : ∀ b o, base.get? b = some o → s.heap.get? b = some o) (hm : mg "super" = none)
    (htop : (prog.main.scope.names.lookup ("super" : Str)).isSome = false) (hop : nsIn K cStatics "thirdparty.any" = some none) (XC : ExTxt K C B) (hself : mroIn K C (.ref C) = some true)
    (hup : ks_superIn K C C "__init__" = some (some (.ref fB))) (htf : typeIn K (.ref fB) = some (.type "function")) (hfn : fnIn K fB = true) (hlim : s.heap.NoLimit)
    (hx : s.heap.get? x = some (excO C t0)) (hbx : base.get? x = none) (hroom : A.depth + 1 < recursionLimit) (hposB : (u3.endLine == u5.line) = true) (hpos : (a3.endLine == a5.line) = true)
    (hq : ∀ h' tk dx, InitEnd s.heap h' x C dx z v → R (.ok (.ret .none)) { s with heap := h', toks := tk }) :
    codeAny (model prog w) A (.call (.ref f) ⟨[.ref x, v], []⟩) R s := by
  obtain ⟨oc, od, doc, pm, ct, an, osl, hf⟩ := T.fn
  obtain ⟨nm, q, N, bs, bm, sn, sub, ab, col, dd, k0, k1, k2, k3, k5, hC, hbm⟩ := XC.cls
  have hcl := clsIn_of hC
  have X : K.In s.heap := M.kin.keeps hb
  refine ks_codeAny_call_defAt (fd := ksFn "__init__" qual (aA q1 q2) (cB z a1 a2 a3 a4 a5 a6 c1 c2 c3 c4) sB .none .none doc pm an cdv ct cc) (body := cB z a1 a2 a3 a4 a5 a6 c1 c2 c3 c4)
    (binds := [("self", .ref x), ("place", v)]) (by omega) (X _ _ hf) rfl hlim (codeRec_of X T.code) rfl (BindsTo.of_eq rfl) (by show ∀ x ∈ sB.names, x.2 ≠ .cell; decide) (locs rfl) (fun h₀ hns hk => ?_)
  have hxL : x ≠ s.heap.objs.size := Nat.ne_of_lt (Heap.lt_size hx)
  have X0 : K.In h₀ := X.keeps hk
  have hb0 : ∀ b o, base.get? b = some o → h₀.get? b = some o := fun b o e => hk b o (hb b o e)
  have hx0 := hk _ _ hx
  have vs : (fun y => ([(("self" : Str), Value.ref x), ("place", v)] : List (Str × Value)).reverse.lookup y) "self" = some (.ref x) := by first | rfl | with_unfolding_all rfl | kernel_rfl
  have vp : (fun y => ([(("self" : Str), Value.ref x), ("place", v)] : List (Str × Value)).reverse.lookup y) "place" = some v := by first | rfl | with_unfolding_all rfl | kernel_rfl
  have I0 : InstAt h₀ x (excO C t0) C none := ⟨hx0, rfl, rfl, trivial⟩
  refine ks_wpAt_execs_cons (ks_wpAt_Expr_any (ks_wpAt_MethodCall ?_ (ev_sup hpos)))
  refine sup_base (s := { s with heap := h₀, toks := s.toks + 2 }) T M hb0 hm htop hns vs I0 hself (by decide) fun h1 k1' e1 => ?_
  have X1 : K.In h1 := X0.keeps k1'
  have hx1 := k1' _ _ hx0
  have I1 : InstAt h1 x (excO C t0) C none := ⟨hx1, rfl, rfl, trivial⟩
  unfold ks_superIn at hup
  rw [hcl] at hup
  obtain ⟨of, hof, hofc⟩ : ∃ of, h1.get? fB = some of ∧ of.cls = .type "function" := by
    have ht' : (K.lookup fB).map (·.cls) = some (.type "function") := htf
    cases y : K.lookup fB with
    | none =>
      rw [y] at ht'
      cases ht'
    | some of =>
      rw [y] at ht'
      exact ⟨of, X1 _ _ y, Option.some.inj ht'⟩
  refine ks_wpAny_getMethod_super e1 (looks_opaque X1 hop) (l₀ := .ref C :: bm) (fun A Q E s k q => wpAny_bind ((looks_clsIn X1 hcl) A _ E s k (wpAny_pure q))) rfl X1 hup hof hofc (ks_ne X1 I1 hcl) (by decide) ?_
  have hu : (h1.push (methodObj (.ref fB) (.ref x))).get? h1.objs.size = some (methodObj (.ref fB) (.ref x)) := Heap.get?_push_at rfl rfl
  have k2' : ∀ b o, h1.get? b = some o → (h1.push (methodObj (.ref fB) (.ref x))).get? b = some o := fun b o e => Heap.get?_push_of_some _ e
  have kk2 : ∀ b o, h₀.get? b = some o → (h1.push (methodObj (.ref fB) (.ref x))).get? b = some o := fun b o e => k2' b o (k1' b o e)
  have hx2 := k2' _ _ hx1
  have ns2 := hns.keeps kk2
  have X2 := X1.keeps k2'
  refine callWith_of rfl (keeps_M hfn) (evalArgs_plain (spliced_cons (ldK ns2 vp (spliced_nil ⟨⟨hu, X2⟩, ?_⟩))))
  have hbk : ∀ b o, base.get? b = some o → (h1.push (methodObj (.ref fB) (.ref x))).get? b = some o := fun b o e => kk2 b o (hb0 b o e)
  refine wpAny_call (ks_codeAny_call_bound hu (bel_init (v := v) TB M hbk hm htop hop XC (M.nolimit.keeps hbk) hx2 hbx (by show A.depth + 1 < recursionLimit; omega) hposB fun h4 tk4 dx J => ?_))
  have nLx : s.heap.objs.size ≠ x := fun e => hxL e.symm
  have nsk : ∀ {h' : Heap}, (∀ b o, b ≠ x → (h1.push (methodObj (.ref fB) (.ref x))).get? b = some o → h'.get? b = some o) → h'.Ns s.heap.objs.size (fun y => ([(("self" : Str), Value.ref x), ("place", v)] : List (Str × Value)).reverse.lookup y) := fun {h'} k => by
    obtain ⟨o, es, ep, ho, r⟩ := ns2
    exact ⟨o, es, ep, k _ _ nLx ho, r⟩
  have ns4 := nsk J.keep
  have bx : ∀ b o, base.get? b = some o → b ≠ x := fun b o e y => by rw [y, hbx] at e; cases e
  have X4 : K.In h4 := M.kin.keeps fun b o e => J.keep b o (bx b o e) (hbk b o e)
  have dxL : s.heap.objs.size < (h1.push (methodObj (.ref fB) (.ref x))).objs.size := by
    obtain ⟨o, _, _, ho, _⟩ := ns2
    exact Heap.lt_size ho
  obtain ⟨t1, hx4⟩ := J.obj
  obtain ⟨tkN, hn4⟩ := J.ns
  have wi : Within (fun y => if y = "name" then some (Value.str zB tkN) else if y = "place" then some v else none) ["name", "place"] := fun y hy => by
    have hy' : (if y = "name" then some (Value.str zB tkN) else if y = "place" then some v else none) ≠ none := hy
    by_cases e : y = "name"
    · rw [e]
      exact List.mem_cons_self
    · by_cases e2 : y = "place"
      · rw [e2]
        exact List.mem_cons_of_mem _ List.mem_cons_self
      · rw [if_neg e, if_neg e2] at hy'
        exact absurd rfl hy'
  show _root_.PySem.wpAt _ _ _ (execs [nameS z c1 c2 c3 c4] _) _ _ _
  -- self.name = z
  refine ks_wpAt_execs_cons (wpAt_of_wpAny (plainObj_wpAny_Assign_Attribute ?_))
  refine wpAny_Constant_str (ldK ns4 vs ?_)
  obtain ⟨oD, esD, epD, hoD, hdD, hcD⟩ := hn4.count wi
  refine set_plain X4 (ox := { cls := .ref C, dict := some dx, data := .fields #[.ref t1, .none, .none, .none, .bool false, .none] }) (od := some oD) ⟨hx4, rfl, rfl, hoD⟩ XC.sa ?_
  refine PySem.OEX.osa_old (nl := ["name", "place"]) X4 hx4 hn4 wi (by decide) hcl (show refsVE (.ref C :: bm) = true from hbm) rfl XC.noN (fun h5 tk5 k5' hn5 => ?_)
  have kD : s.heap.objs.size ≤ dx := Nat.le_of_lt (Nat.lt_of_lt_of_le dxL J.dbig)
  show _root_.PySem.wpAt _ _ _ (execs [] _) _ _ _
  refine wpAt_of_wpAny (wpAny_execs_nil (hq h5 tk5 dx ⟨fun b o nb e => ?_, ⟨t1, (k5' x _ (fun e => J.dne e.symm) hx4)⟩, kD, J.dne, ⟨tk4, ?_⟩⟩))
  · exact k5' b o (Nat.ne_of_lt (Nat.lt_of_lt_of_le (Heap.lt_size e) kD)) (J.keep b o nb (kk2 b o (hk b o e)))
  · have ef : (fun y : Str => if y = "name" then some (Value.str z tk4) else if y = "name" then some (Value.str zB tkN) else if y = "place" then some v else none) = (fun y : Str => if y = "name" then some (Value.str z tk4) else if y = "place" then some v else none) := by
      funext y
      by_cases e : y = "name"
      · rw [if_pos e, if_pos e]
      · rw [if_neg e, if_neg e, if_neg e]
    rw [← ef]
    exact hn5
end
end Bel
end PySem

/-! ## The errors in the layer -/
namespace L2
open PySem PySem.Spec PyProof.Rows
/-- the fields of an error: its name, its place -/
def errF (z : Str) (v : V) : List (Str × V) := [(("name" : Str), .str z), (("place" : Str), v)]
theorem errF_name (z : Str) (v : V) : (errF z v).lookup ("name" : Str) = some (.str z) := by simp [errF, List.lookup]
theorem errF_place (z : Str) (v : V) : (errF z v).lookup ("place" : Str) = some v := by
  have e : (("place" : Str) == ("name" : Str)) = false := by decide +kernel
  simp [errF, List.lookup, e]
theorem relO_err {z : Str} {v : V} {v' : Value} {tk : Tok} (r : RelV v v') (f : Str) : RelO ((errF z v).lookup f) (if f = "name" then some (.str z tk) else if f = "place" then some v' else none) := by
  by_cases h1 : f = "name"
  · subst h1
    rw [if_pos rfl, errF_name]
    exact ⟨tk, rfl⟩
  · rw [if_neg h1]
    by_cases h2 : f = "place"
    · subst h2
      rw [if_pos rfl, errF_place]
      exact r
    · rw [if_neg h2]
      have e1 : (f == ("name" : Str)) = false := by simpa using h1
      have e2 : (f == ("place" : Str)) = false := by simpa using h2
      have e : (errF z v).lookup f = none := by simp [errF, List.lookup, e1, e2]
      rw [e]
      trivial
/-- what the written part and the top say of an error class C(place): its name z; its __init__ -/
structure ErrC (prog : Program) (K : PySem.W.Frag) (mg : Str → Option Value) (x : Str) (C : Addr) (z : Str) (bs : List Addr) : Prop where
  gC : mg x = some (.ref C)
  ga : PySem.W.findIn K (.ref C) "__getattribute__" = some (some (.builtin "BaseException.__getattribute__"))
  gg : PySem.W.findIn K (.ref C) "__getattr__" = some none
  hdC : PySem.W.hasDictIn K C = true
  noP : PySem.W.findIn K (.ref C) "place" = some none
  noN : PySem.W.findIn K (.ref C) "name" = some none
  kC : PySem.W.keepIn K (.ref C) = true
  exC : PySem.W.subIn K (.ref C) (.type "BaseException") = some true
  tyC : PySem.W.typeIn K (.ref C) = some (.type "type")
  cls : ∃ q N bv sn sub ab col dd k0 k1 k2 k3 k5, K.lookup C = some (excClassObj z q C N bv (bs.map Value.ref ++ PySem.HandSPX.veTail) true sn sub ab col dd k0 k1 k2 k3 k5 "ValueError.__new__")
  ini : ∃ fI : Addr, PySem.W.findIn K (.ref C) "__init__" = some (some (.ref fI)) ∧ PySem.W.typeIn K (.ref fI) = some (.type "function") ∧
    ∀ (w : World) (A : Around) (R : Result → Shared → Prop) (s : Shared) (base : Heap) (x t0 : Addr) (v : Value), Mod K mg base → (∀ b o, base.get? b = some o → s.heap.get? b = some o) → s.heap.NoLimit →
      s.heap.get? x = some (PySem.HandSPX.excO C t0) → base.get? x = none → A.depth + 1 < recursionLimit →
      (∀ h' tk dx, PySem.Bel.InitEnd s.heap h' x C dx z v → R (.ok (.ret .none)) { s with heap := h', toks := tk }) →
      codeAny (model prog w) A (.call (.ref fI) ⟨[.ref x, v], []⟩) R s
theorem refsVE_map : ∀ bs : List Addr, PySem.HandSPX.refsVE (bs.map Value.ref ++ PySem.HandSPX.veTail) = true
  | [] => by decide +kernel
  | _ :: r => refsVE_map r
section
variable {X : Cx} {C : Addr} {x z : Str} {bs : List Addr}
/-- C(e) -/
def tMkE (C : Addr) (z : Str) (ta : TA) : St → Hp → XK → Prop := fun σ H Q => ta σ H fun vs H1 => ∃ v, vs = [v] ∧ ∀ d, H1 d = none → Q (.ref C) (some d) (upd H1 d (.xd (errF z v)))
theorem pmk_err {a : Expr} {ta : TA} {p pos : Pos} {k : Nat} (T : ErrC X.prog X.K X.mg x C z bs) (hr : Room (k + 2) X.A) (ha : PA X [a] ta) (hg : Gl X x := by rfl) (hdb : (x == ("__debug__" : Str)) = false := by decide)
    (he : starEach (a :: []) X.env = (false, eval a X.env) :: starEach [] X.env := by rfl) (hpl : (backTo pos (starEach [] X.env)).any (·.1) = false := by rfl) :
    PMk X (.Call (.Name x p) [a] [] pos) (tMkE C z ta) := by
  intro pins s σ H Q I h
  obtain ⟨q, N, bv, sn, sub, ab, col, dd, k0, k1, k2, k3, k5, hC⟩ := T.cls
  have hbm := refsVE_map bs
  obtain ⟨fI, hiC, htI, hini⟩ := T.ini
  refine wpAny_Call_Name_kw (ld_glob I hg T.gC ?_ hdb)
  refine PySem.W.callWith_K (h₀ := X.base) I.ok.mod.kin T.kC (thn (ha.run pos pins s σ H _ I h) fun us s1 hh => ?_) he hpl
  obtain ⟨vs, H1, I1, r1, v, ev, q1⟩ := hh
  subst ev
  refine ⟨I1.kIn, ?_⟩
  cases r1 with
  | cons rv rn =>
    rename_i v' us'
    cases rn
    show wpAny _ _ (call (.ref C) [v']) _ _ _
    have hlim := I1.nolimit
    have hbase := I1.bk
    have hmod := I1.mod
    obtain ⟨hp, g, dr, tk, os⟩ := s1
    have kk : ∀ b o, hp.get? b = some o → ((hp.push (PySem.W.kdv_tup [v'])).push (PySem.HandSPX.excO C hp.objs.size)).get? b = some o := fun b o e => Heap.get?_push_of_some _ (Heap.get?_push_of_some _ e)
    have hget : ((hp.push (PySem.W.kdv_tup [v'])).push (PySem.HandSPX.excO C hp.objs.size)).get? (hp.objs.size + 1) = some (PySem.HandSPX.excO C hp.objs.size) := by heap_get
    have hnb : X.base.get? (hp.objs.size + 1) = none := by
      cases e : X.base.get? (hp.objs.size + 1) with
      | none => rfl
      | some o =>
        have y : hp.get? (hp.objs.size + 1) = some o := hbase _ _ e
        exact absurd (Nat.lt_of_succ_lt (Heap.lt_size y)) (Nat.lt_irrefl _)
    have hdep := hr.dp
    refine wpAny_call (PySem.HandSPX.call_own F.excBase_ValueError (fun Y => PySem.HandSPX.refsVE_contains Y _ hbm) (I1.kIn _ _ hC) (PySem.W.looks_findIn I1.kIn hiC) (fun self => PySem.W.bind_fn I1.kIn self htI) (PySem.Bel.one_fits v') ?_)
    refine hini X.w _ _ ⟨(hp.push (PySem.W.kdv_tup [v'])).push (PySem.HandSPX.excO C hp.objs.size), g, dr, tk, os⟩ X.base (hp.objs.size + 1) hp.objs.size v' hmod (fun b o e => kk b o (hbase b o e)) (hlim.keeps kk) hget hnb
      (by show X.A.depth + 1 + 1 < recursionLimit; omega) fun h' tk' d M => ?_
    refine ⟨rfl, ?_⟩
    show MkP X pins σ Q (.ref (hp.objs.size + 1)) ⟨h', g, dr, tk', os⟩
    obtain ⟨t1, hoe⟩ := M.obj
    obtain ⟨tkN, hns⟩ := M.ns
    have new : hp.objs.size ≤ hp.objs.size + 1 := Nat.le_succ _
    have mk : ∀ b o, hp.get? b = some o → h'.get? b = some o := fun b o e => M.keep b o (Nat.ne_of_lt (Nat.lt_of_lt_of_le (Heap.lt_size e) new)) (kk b o e)
    have dbig : hp.objs.size ≤ d := by
      have y := M.dbig
      have e : ((hp.push (PySem.W.kdv_tup [v'])).push (PySem.HandSPX.excO C hp.objs.size)).objs.size = hp.objs.size + 1 + 1 := by rw [Heap.size_push, Heap.size_push]
      have y' : ((hp.push (PySem.W.kdv_tup [v'])).push (PySem.HandSPX.excO C hp.objs.size)).objs.size ≤ d := y
      omega
    obtain ⟨G', g1, g2⟩ := restrict h' fun b => decide (b ≠ hp.objs.size + 1)
    have gk : ∀ b, b ≠ hp.objs.size + 1 → G'.get? b = h'.get? b := fun b hb => g1 b (decide_eq_true hb)
    have ge : G'.get? (hp.objs.size + 1) = none := g2 (hp.objs.size + 1) (by simp)
    have old : ∀ b o, hp.get? b = some o → G'.get? b = some o := fun b o y => (gk b (Nat.ne_of_lt (Nat.lt_of_lt_of_le (Heap.lt_size y) new))).trans (mk b o y)
    have ob : ObjOk X.prog X.w (upd H1 d (.xd (errF z v))) G' d (.xd (errF z v)) := ⟨_, hns.at (fun o y => (gk d M.dne).trans y), fun f => relO_err rv f⟩
    have J : Inv X pins σ (upd H1 d (.xd (errF z v))) ⟨G', g, dr, tk', os⟩ := I1.laid (t' := tk') old dbig ob
    refine ⟨hp.objs.size + 1, _, _, ⟨G', g, dr, tk', os⟩, _, .ref C, some d, rfl, J, fun b o y => ?_, ge, hoe, ⟨rfl, rfl⟩, rfl, rfl, ?_, rfl, I1.bare, raises_own T.exC T.tyC, q1 d (I1.hok.fresh dbig)⟩
    · by_cases hb : b = hp.objs.size + 1
      · have y' : G'.get? b = some o := y
        rw [hb, ge] at y'
        cases y'
      · exact (gk b hb).symm.trans y
    · rw [upd_ne (Ne.symm M.dne)]
      exact I1.hok.fresh new
/-- raise C(e) -/
theorem ps_raiseE {a : Expr} {ta : TA} {W : WX} {p pos pos2 : Pos} {k : Nat} (hc : X.calm = true) (T : ErrC X.prog X.K X.mg x C z bs) (hr : Room (k + 2) X.A) (tk : Takes X W) (ha : PA X [a] ta) (hg : Gl X x := by rfl) (hdb : (x == ("__debug__" : Str)) = false := by decide)
    (he : starEach (a :: []) X.env = (false, eval a X.env) :: starEach [] X.env := by rfl) (hpl : (backTo pos (starEach [] X.env)).any (·.1) = false := by rfl) :
    PS X (.Raise (some (.Call (.Name x p) [a] [] pos)) none pos2) (fun _ σ H => tMkE C z ta σ H fun cls d H' => W cls d σ H') := ps_raise hc tk (pmk_err T hr ha hg hdb he hpl)
end
/-! ### which clause takes which error -/
section
variable {prog : Program} {K : PySem.W.Frag} {mg : Str → Option Value} {x y z u : Str} {C D : Addr} {bs ds : List Addr}
theorem ErrC.ne (T : ErrC prog K mg x C z bs) (U : ErrC prog K mg y D u ds) (h : z ≠ u) : C ≠ D := by
  intro e
  subst e
  obtain ⟨q, N, bv, sn, sub, ab, col, dd, k0, k1, k2, k3, k5, h1⟩ := T.cls
  obtain ⟨q', N', bv', sn', sub', ab', col', dd', k0', k1', k2', k3', k5', h2⟩ := U.cls
  rw [h1] at h2
  have h3 := congrArg Obj.data (Option.some.inj h2)
  injection h3 with h4
  exact h (congrArg ClassData.name h4)
theorem contains_refs (D : Addr) : ∀ l : List Addr, (l.map Value.ref ++ PySem.HandSPX.veTail).contains (Value.ref D) = decide (D ∈ l)
  | [] => by
    have e : (PySem.HandSPX.veTail).contains (Value.ref D) = false := by simp [PySem.HandSPX.veTail]
    simpa using e
  | a :: l => by
    have ih := contains_refs D l
    rw [List.map_cons, List.cons_append, List.contains_cons, ih]
    by_cases h : D = a
    · subst h
      simp
    · simp [h]
theorem ErrC.exm (T : ErrC prog K mg x C z bs) (U : ErrC prog K mg y D u ds) : PySem.W.exmOne K (.ref C) (.ref D) = some (decide (D ∈ C :: bs)) := by
  obtain ⟨q, N, bv, sn, sub, ab, col, dd, k0, k1, k2, k3, k5, h1⟩ := T.cls
  obtain ⟨q', N', bv', sn', sub', ab', col', dd', k0', k1', k2', k3', k5', h2⟩ := U.cls
  have c1 := PySem.Bel.clsIn_of h1
  have c2 := PySem.Bel.clsIn_of h2
  have s1 : PySem.W.subIn K (.ref C) (.ref D) = some (decide (D ∈ C :: bs)) := by
    show PySem.W.mroIn K C (.ref D) = _
    unfold PySem.W.mroIn
    rw [c1, Option.bind_some]
    exact congrArg some (contains_refs D (C :: bs))
  unfold PySem.W.exmOne PySem.W.kitCls
  rw [U.exC, if_pos (by decide)]
  show (if ((PySem.W.clsIn K D).isSome && PySem.W.typeIn K (.ref D) == some (.type "type")) = true then PySem.W.subIn K (.ref C) (.ref D) else none) = _
  rw [c2, U.tyC, if_pos (by simp), s1]
theorem ErrC.exm_self (T : ErrC prog K mg x C z bs) : PySem.W.exmOne K (.ref C) (.ref C) = some true := by
  rw [T.exm T]
  simp
theorem ErrC.exm_base {B : Addr} (T : ErrC prog K mg x C z [B]) (U : ErrC prog K mg y B u ds) : PySem.W.exmOne K (.ref C) (.ref B) = some true := by
  rw [T.exm U]
  simp
theorem ErrC.exm_no (T : ErrC prog K mg x C z bs) (U : ErrC prog K mg y D u ds) (h : z ≠ u) (hb : D ∉ bs) : PySem.W.exmOne K (.ref C) (.ref D) = some false := by
  rw [T.exm U]
  have e := (T.ne U h).symm
  simp [e, hb]
end
/-! ### several clauses, with names and without -/
/-- one clause: its class, the slot of its name (if it has one), its suite -/
abbrev Clause := Value × Option Nat × (Addr → Value → Option Addr → TS)
def clEnds (i : Nat) (D : Ends) : Ends := { nx := fun σ' H' => D.nx (σ'.set i none) H', rt := D.rt, bk := fun σ' H' => D.bk (σ'.set i none) H', ct := fun σ' H' => D.ct (σ'.set i none) H' }
def wCl (K : PySem.W.Frag) (Wout : WX) (D : Ends) : List Clause → WX
  | [] => Wout
  | (c, none, ts) :: r => fun cls d σ H => ∃ b, PySem.W.exmOne K cls c = some b ∧ (b = true → ∀ a, H a = none → ts a cls d D σ H) ∧ (b = false → wCl K Wout D r cls d σ H)
  | (c, some i, ts) :: r => fun cls d σ H => ∃ b, PySem.W.exmOne K cls c = some b ∧ (b = true → ∀ a, H a = none → ts a cls d (clEnds i D) (σ.set i (some (.ref a))) H) ∧ (b = false → wCl K Wout D r cls d σ H)
inductive ClsOk (X : Cx) : List ExceptHandler → List Clause → Prop
  | nil : ClsOk X [] []
  | bare {x : Str} {c : Value} {ts : Addr → Value → Option Addr → TS} {b₀ : Stmt} {suite : List Stmt} {np pos' : Pos} {hds : List ExceptHandler} {l : List Clause} (hc : Names X x c)
      (hsu : ∀ (a : Addr) (oe : Obj) (cls : Value) (d : Option Addr) (pn : List (Addr × Obj)), Zc cls d oe → (∃ vs, oe.data = .fields vs) → PSs (X.suite a ((a, oe) :: pn)) (b₀ :: suite) (ts a cls d)) (r : ClsOk X hds l) :
      ClsOk X (.ExceptHandler (some (.Name x np)) none (b₀ :: suite) pos' :: hds) ((c, none, ts) :: l)
  | named {x n : Str} {i : Nat} {c : Value} {ts : Addr → Value → Option Addr → TS} {b₀ : Stmt} {suite : List Stmt} {np pos' : Pos} {hds : List ExceptHandler} {l : List Clause} (hc : Names X x c) (hi : X.N[i]? = some n) (hln : X.env.kindOf n = some .local)
      (hsu : ∀ (a : Addr) (oe : Obj) (cls : Value) (d : Option Addr) (pn : List (Addr × Obj)), Zc cls d oe → (∃ vs, oe.data = .fields vs) → PSs (X.suite a ((a, oe) :: pn)) (b₀ :: suite) (ts a cls d)) (r : ClsOk X hds l) :
      ClsOk X (.ExceptHandler (some (.Name x np)) (some n) (b₀ :: suite) pos' :: hds) ((c, some i, ts) :: l)
section
variable {X : Cx} {body : List Stmt} {h₀ : ExceptHandler} {hds : List ExceptHandler} {l : List Clause} {pos : Pos} {tb : WX → TS} {Wout : WX}
theorem ps_try_cl (hs : X.stack = X.env :: X.outer) (hf : X.env.frame = some X.env.locals) (hN : X.N.Nodup) (tk : Takes X Wout)
    (hb : ∀ (W : WX) (pn : List (Addr × Obj)) (xe : Value → Shared → Prop), Takes (X.tr pn xe) W → PassesOwn (model X.prog X.w) X.A X.env xe → PSs (X.tr pn xe) body (tb W))
    (hh : ClsOk X (h₀ :: hds) l) : PS X (.Try body (h₀ :: hds) [] [] pos) (fun D σ H => tb (wCl X.K Wout D l) D σ H) := by
  refine ⟨fun pins s σ H D I h => ?_⟩
  have okX := I.ok
  have hfrs : X.A.frames = some (X.env :: X.outer) := okX.frames.trans (congrArg some hs)
  refine wpAny_Try_except ?_
  let after : Value → Shared → Prop := fun e s₁ => wpAny (model X.prog X.w) X.A (noteFrame e X.env) (fun _ s₂ => wpAny (model X.prog X.w) X.A (setFlight e none) (fun _ s₃ =>
    wpAny (model X.prog X.w) X.A (handleBy e X.env (h₀ :: hds)) (SP X pins D) X.xe s₃) X.xe s₂) X.xe s₁
  have caught : Takes (X.tr (X.pn ++ pins) after) (wCl X.K Wout D l) := fun u s' ⟨a, B, sI, pins', σ', H', cls, d, eu, J', nb, up, sky, na, os, ag, w⟩ => by
    subst eu
    have J : Inv X pins σ' H' sI := J'.ofTry okX
    have sky2 : Sky B (X.env :: X.outer) a (Zc cls d) X.env.locals s'.heap := hs ▸ sky
    show wpAny (model X.prog X.w) X.A (noteFrame (.ref a) X.env) _ _ _
    refine Sky.land Zc.steady hfrs hf sky2 fun h3 fl3 up3 => ?_
    have J3 : Inv X pins σ' H' { s' with heap := h3 } := J.landed nb fl3.1 (up.trans up3) os ag
    obtain ⟨oe3, vs3, he3, hz3, hd3⟩ := fl3.there
    have off : a ∉ frs (X.env :: X.outer) := fun hm => by
      obtain ⟨_, o2, e2, hnf⟩ := fl3.2.2.1.mem hm
      rw [he3] at e2
      cases e2
      exact hnf _ hd3
    have offL : a ≠ X.env.locals := fun y => off (List.mem_filterMap.mpr ⟨X.env, List.mem_cons_self, hf.trans (congrArg some y.symm)⟩)
    have offF : a ∉ X.fs := fun hm => by
      obtain ⟨e, hme, q⟩ := List.mem_filterMap.mp hm
      exact off (List.mem_filterMap.mpr ⟨e, List.mem_cons_of_mem _ hme, q⟩)
    have S3 := J3.suite he3 hd3 na offL offF
    have LT : PySem.W.Looks (model X.prog X.w) h3 (typeOf (.ref a)) cls := fun A Q E s k q => wpAny_typeOf_ref (k _ _ he3) (by rw [hz3.1]; exact q)
    have test : ∀ {x : Str} {np : Pos} {c : Value} {Q : Value → Shared → Prop} {E : Value → Shared → Prop}, Names X x c → Q c { s' with heap := h3 } → wpAny (model X.prog X.w) (X.A.mark (some (.ref a))) (eval (.Name x np) X.env) Q E { s' with heap := h3 } := by
      intro x np c Q E hc q
      rcases hc with ⟨hg, hdbg, hm | ⟨hm, hv, hnn⟩⟩
      · exact ld_glob (X := X.suite a ((a, oe3) :: (X.pn ++ pins))) S3 hg hm q hdbg
      · exact ld_blt (X := X.suite a ((a, oe3) :: (X.pn ++ pins))) S3 hg hm hv q hnn hdbg
    have go : ∀ {hds' : List ExceptHandler} {l' : List Clause}, ClsOk X hds' l' → wCl X.K Wout D l' cls d σ' H' →
        wpAny (model X.prog X.w) X.A (handleBy (.ref a) X.env hds') (SP X pins D) X.xe { s' with heap := h3 } := by
      intro hds' l' hk
      induction hk with
      | nil =>
        intro w
        refine wpAny_handleBy_nil ?_
        obtain ⟨k1, k2, k3, oe, vs, T, oT, ts', he, hz, hd, hv1, hr⟩ := id fl3
        unfold PySem.passOn
        refine wpAny_bind (wpAny_field he hd hv1 ?_)
        rw [if_neg (show ¬ ((Value.ref T == Value.none) = true) from by simp)]
        have fin : wpAny (model X.prog X.w) X.A (setFlight (.ref a) X.env.frame) (fun _ s4 => wpAny (model X.prog X.w) X.A (throw (.ref a) : Sem Flow) (SP X pins D) X.xe s4) X.xe { s' with heap := h3 } := by
          rw [hf]
          exact HandSPX.setFlight_upZ fl3 fun h4 hh4 up4 => wpAny_throw (tk _ _
            ⟨a, B, sI, pins, σ', H', cls, d, rfl, J, nb, (up.trans up3).trans up4, .inr (.inr (hs ▸ hh4)), na, os, ag, w⟩)
        first
          | exact wpAny_bind (wpAny_pure (wpAny_bind fin))
          | exact wpAny_bind fin
      | @bare x c ts b₀ suite np pos' hds2 l2 hc hsu r ih =>
        intro w
        obtain ⟨b, hb1, hyes, hno⟩ := w
        refine wpAny_handleBy_cons (codeAny_handlers_test ?_) (by intro q; cases q)
        refine test hc ((PySem.W.exm_one (M := model X.prog X.w) (J3.kIn) LT hb1).here ?_)
        cases b with
        | false =>
          show wpAny _ X.A (handleBy (.ref a) X.env hds2) _ _ _
          exact ih (hno rfl)
        | true =>
          refine codeAny_handlers_suite ?_
          refine HandSPX.lands_againZ fl3 fun h4 fl4 up4 => ?_
          have J4 : Inv X pins σ' H' { s' with heap := h4 } := J.landed nb fl4.1 ((up.trans up3).trans up4) os ag
          obtain ⟨oe4, vs4, he4, hz4, hd4⟩ := fl4.there
          refine wpAny_mono ((hsu a oe4 cls d (X.pn ++ pins) hz4 ⟨_, hd4⟩).run [] _ _ H' _ (J4.suite he4 hd4 na offL offF) (hyes rfl a na)) (fun f s6 hsp => ?_) (fun _ _ y => False.elim y)
          cases f with
          | next => obtain ⟨σ6, H6, S6, q6⟩ := hsp; exact ⟨_, _, S6.unsuite okX, q6⟩
          | brk => obtain ⟨σ6, H6, S6, q6⟩ := hsp; exact ⟨_, _, S6.unsuite okX, q6⟩
          | cont => obtain ⟨σ6, H6, S6, q6⟩ := hsp; exact ⟨_, _, S6.unsuite okX, q6⟩
          | ret u => obtain ⟨v6, σ6, H6, S6, r6, q6⟩ := hsp; exact ⟨_, _, _, S6.unsuite okX, r6, q6⟩
      | @named x n i c ts b₀ suite np pos' hds2 l2 hc hi hln hsu r ih =>
        intro w
        obtain ⟨b, hb1, hyes, hno⟩ := w
        refine wpAny_handleBy_cons (codeAny_handlers_test ?_) (by intro q; cases q)
        refine test hc ((PySem.W.exm_one (M := model X.prog X.w) (J3.kIn) LT hb1).here ?_)
        cases b with
        | false =>
          show wpAny _ X.A (handleBy (.ref a) X.env hds2) _ _ _
          exact ih (hno rfl)
        | true =>
          refine codeAny_handlers_suite_as ?_
          refine HandSPX.lands_againZ fl3 fun h4 fl4 up4 => ?_
          have J4 : Inv X pins σ' H' { s' with heap := h4 } := J.landed nb fl4.1 ((up.trans up3).trans up4) os ag
          obtain ⟨oe4, vs4, he4, hz4, hd4⟩ := fl4.there
          refine store_ok (X := X.suite a ((a, oe4) :: (X.pn ++ pins))) (v := .ref a) (J4.suite he4 hd4 na offL offF) hN hi (.inl hln) rfl (fun s5 S5 => ?_) (.inr hln)
          refine wpAny_mono ((hsu a oe4 cls d (X.pn ++ pins) hz4 ⟨_, hd4⟩).run [] s5 _ H' _ S5 (hyes rfl a na)) (fun f s6 hsp => ?_) (fun _ _ y => False.elim y)
          have gone : ∀ {σ6 : St} {H6 : Hp} {Q : Shared → Prop}, Inv (X.suite a ((a, oe4) :: (X.pn ++ pins))) [] σ6 H6 s6 → (∀ s7, Inv X pins (σ6.set i none) H6 s7 → Q s7) →
              wpAny (model X.prog X.w) X.A (do bindName X.env n .none; unbindBehindTheSuite X.env n pos') (fun _ s7 => Q s7) X.xe s6 := fun {σ6 H6 Q} S6 hq => gone_ok (S6.unsuite okX) hN hi hln hq
          cases f with
          | next => obtain ⟨σ6, H6, S6, q6⟩ := hsp; exact gone S6 fun s7 J7 => ⟨_, _, J7, q6⟩
          | brk => obtain ⟨σ6, H6, S6, q6⟩ := hsp; exact gone S6 fun s7 J7 => ⟨_, _, J7, q6⟩
          | cont => obtain ⟨σ6, H6, S6, q6⟩ := hsp; exact gone S6 fun s7 J7 => ⟨_, _, J7, q6⟩
          | ret u => obtain ⟨v6, σ6, H6, S6, r6, q6⟩ := hsp; exact gone S6 fun s7 J7 => ⟨_, _, _, J7, r6, q6⟩
    exact go hh w
  refine wpAny_mono ((hb (wCl X.K Wout D l) (X.pn ++ pins) after caught PassesOwn.looking).run [] s σ H D (I.toTry _) h) (fun f s1 hsp => ?_) (fun e s1 he => he)
  cases f with
  | next => obtain ⟨σ', H', J', q⟩ := hsp; exact wpAny_execs_nil ⟨σ', H', J'.ofTry okX, q⟩
  | brk => obtain ⟨σ', H', J', q⟩ := hsp; exact ⟨σ', H', J'.ofTry okX, q⟩
  | cont => obtain ⟨σ', H', J', q⟩ := hsp; exact ⟨σ', H', J'.ofTry okX, q⟩
  | ret u => obtain ⟨v, σ', H', J', r, q⟩ := hsp; exact ⟨v, σ', H', J'.ofTry okX, r, q⟩
end
/-! ### e.place, e.name in a suite -/
/-- the reading: a the caught error, cls its class, d its dict -/
def tErrF (prog : Program) (K : PySem.W.Frag) (mg : Str → Option Value) (a : Addr) (cls : Value) (d : Option Addr) (f : Str) (te : TE) : TE := fun σ H Q => te σ H fun x H1 => x = .ref a ∧
  ∃ (y z : Str) (C : Addr) (bs : List Addr) (dd : Addr) (v w : V), ErrC prog K mg y C z bs ∧ cls = .ref C ∧ d = some dd ∧ H1 dd = some (.xd (errF z v)) ∧ (errF z v).lookup f = some w ∧ (f = "place" ∨ f = "name") ∧ Q w H1
theorem pe_errF {X : Cx} {a : Addr} {oe : Obj} {cls : Value} {d : Option Addr} {pn : List (Addr × Obj)} {e : Expr} {te : TE} {pos : Pos} {f : Str}
    (hz : Zc cls d oe) (hf : ∃ vs, oe.data = .fields vs) (he : PE (X.suite a ((a, oe) :: pn)) e te) (hb : attributeBase e f X.env (eval e X.env) = eval e X.env := by rfl) :
    PE (X.suite a ((a, oe) :: pn)) (.Attribute e f pos) (tErrF X.prog X.K X.mg a cls d f te) := by
  refine ⟨fun pins s σ H Q I h => ?_⟩
  refine attr_of hb (thn (he.run pins s σ H _ I h) fun u s1 hh => ?_)
  obtain ⟨x, H1, I1, rx, ex, y, z, C, bs, dd, v, w', T, ec, ed, ea, l, hfn, q⟩ := hh
  subst ex
  obtain rfl : u = Value.ref a := rx
  subst ec
  subst ed
  have hno : PySem.W.findIn X.K (.ref C) f = some none := by
    rcases hfn with e | e
    · rw [e]; exact T.noP
    · rw [e]; exact T.noN
  obtain ⟨ha, _⟩ := I1.pin (a, oe) (List.mem_append_left _ List.mem_cons_self)
  obtain ⟨vs, hd⟩ := hf
  have hx : ObjOk X.prog X.w H1 s1.heap dd (.xd (errF z v)) := I1.hok dd _ ea
  obtain ⟨mA, hns, hr⟩ := hx
  obtain ⟨od, ho, hl⟩ := lookIn_ns hns
  obtain ⟨u, hu, ru⟩ := RelO.some_of (v := w') (o := mA f) (by rw [← l]; exact hr f)
  have J : PySem.W.InstAt s1.heap a oe C (some od) := ⟨ha, hz.1, by unfold PySem.W.notCls; rw [hd] <;> rfl, by rw [hz.2]; exact ho⟩
  exact HandSPX.exc_get I1.kIn J T.ga T.gg T.exC (PySem.W.findObj_own T.hdC hno rfl (by rw [hl, hu])) (handed_of ru) ⟨w', H1, I1.tok _, ru, q⟩

/-! ### from the text to the facts -/
section
variable {prog : Program} {K : PySem.W.Frag} {mg : Str → Option Value} {h : Heap} {x z qual : Str} {C f N cc cda : Addr} {q : Str} {bv : List Value} {sn : List Str} {sub : List Value} {ab : Bool} {col : Option Bool} {dd : Option Addr} {k0 k1 k2 k3 k5 : Option Value}
  {oc doc pm ct ccl cl : Value} {od an cdd cld : Option Addr} {osl vs ccs csl : Array (Option Value)} {fv : Array Value} {tf : Tok} {p1 p2 a1 a2 a3 a4 a5 a6 b1 b2 b3 b4 c1 c2 c3 c4 : Pos}
/-- the class above all -/
structure ErrTxtB (prog : Program) (K : PySem.W.Frag) (x z qual : Str) (C f : Addr) : Prop where
  cls : ∃ q N bv sn sub ab col dd k0 k1 k2 k3 k5, K.lookup C = some (excClassObj z q C N bv [.type "ValueError", .type "Exception", .type "BaseException", .type "object"] true sn sub ab col dd k0 k1 k2 k3 k5 "ValueError.__new__")
  sup : PySem.W.ks_superIn K C C "__init__" = some (some (.builtin "ValueError.__init__"))
  txt : ∃ (cc cda : Addr) (cdv : Value) (p1 p2 a1 a2 a3 a4 a5 a6 b1 b2 b3 b4 c1 c2 c3 c4 : Pos), PySem.Bel.SupTxt K prog.main.file C f qual (PySem.Bel.bB z a1 a2 a3 a4 a5 a6 b1 b2 b3 b4 c1 c2 c3 c4) cc cda cdv p1 p2 ∧ (a3.endLine == a5.line) = true
  tF : PySem.W.typeIn K (.ref f) = some (.type "function")
  fnF : PySem.W.fnIn K f = true
/-- what both kinds ask -/
structure ErrCom (prog : Program) (K : PySem.W.Frag) (mg : Str → Option Value) (x : Str) (C f : Addr) : Prop where
  gC : mg x = some (.ref C)
  ga : PySem.W.findIn K (.ref C) "__getattribute__" = some (some (.builtin "BaseException.__getattribute__"))
  gg : PySem.W.findIn K (.ref C) "__getattr__" = some none
  sa : PySem.W.findIn K (.ref C) "__setattr__" = some (some (.builtin "object.__setattr__"))
  hdC : PySem.W.hasDictIn K C = true
  noP : PySem.W.findIn K (.ref C) "place" = some none
  noN : PySem.W.findIn K (.ref C) "name" = some none
  kC : PySem.W.keepIn K (.ref C) = true
  exC : PySem.W.subIn K (.ref C) (.type "BaseException") = some true
  isV : PySem.W.subIn K (.ref C) (.type "ValueError") = some true
  tyC : PySem.W.typeIn K (.ref C) = some (.type "type")
  iC : PySem.W.findIn K (.ref C) "__init__" = some (some (.ref f))
  tF : PySem.W.typeIn K (.ref f) = some (.type "function")
/-- of the whole text: super is the built-in, no other modules -/
structure ErrTop (prog : Program) (K : PySem.W.Frag) (mg : Str → Option Value) : Prop where
  nosup : mg "super" = none
  top : (prog.main.scope.names.lookup ("super" : Str)).isSome = false
  plain : PySem.W.nsIn K cStatics "thirdparty.any" = some none
theorem mro_of {l : List Addr} {n : String} (hC : K.lookup C = some (excClassObj z q C N bv (l.map Value.ref ++ PySem.HandSPX.veTail) true sn sub ab col dd k0 k1 k2 k3 k5 n)) (D : Addr) : PySem.W.mroIn K C (.ref D) = some (decide (D ∈ C :: l)) := by
  unfold PySem.W.mroIn
  rw [PySem.Bel.clsIn_of hC, Option.bind_some]
  exact congrArg some (contains_refs D (C :: l))
theorem ErrC.ofBase (T : ErrTxtB prog K x z qual C f) (U : ErrCom prog K mg x C f) (Z : ErrTop prog K mg) : ErrC prog K mg x C z [] := by
  obtain ⟨q, N, bv, sn, sub, ab, col, dd, k0, k1, k2, k3, k5, hC⟩ := T.cls
  obtain ⟨cc, cda, cdv, p1, p2, a1, a2, a3, a4, a5, a6, b1, b2, b3, b4, c1, c2, c3, c4, tx, hp⟩ := T.txt
  refine { gC := U.gC, ga := U.ga, gg := U.gg, hdC := U.hdC, noP := U.noP, noN := U.noN, kC := U.kC, exC := U.exC, tyC := U.tyC, cls := ⟨q, N, bv, sn, sub, ab, col, dd, k0, k1, k2, k3, k5, hC⟩, ini := ⟨f, U.iC, U.tF, ?_⟩ }
  intro w A R s base x t0 v M hb hlim hx hnb hroom hq
  have XC : PySem.Bel.ExTxt K C C := { cls := ⟨z, q, N, bv, _, sn, sub, ab, col, dd, k0, k1, k2, k3, k5, hC, refsVE_map []⟩, sa := U.sa, noP := U.noP, noN := U.noN, below := (mro_of (l := []) hC C).trans (by simp), sup := T.sup, isV := U.isV }
  exact PySem.Bel.bel_init tx M hb Z.nosup Z.top Z.plain XC hlim hx hnb (by omega) hp hq
/-- a class over it -/
structure ErrTxtS (prog : Program) (K : PySem.W.Frag) (x z qual : Str) (C f B fB : Addr) : Prop where
  cls : ∃ q N bv sn sub ab col dd k0 k1 k2 k3 k5, K.lookup C = some (excClassObj z q C N bv [.ref B, .type "ValueError", .type "Exception", .type "BaseException", .type "object"] true sn sub ab col dd k0 k1 k2 k3 k5 "ValueError.__new__")
  supB : PySem.W.ks_superIn K C B "__init__" = some (some (.builtin "ValueError.__init__"))
  supC : PySem.W.ks_superIn K C C "__init__" = some (some (.ref fB))
  txt : ∃ (cc cda : Addr) (cdv : Value) (p1 p2 a1 a2 a3 a4 a5 a6 c1 c2 c3 c4 : Pos), PySem.Bel.SupTxt K prog.main.file C f qual (PySem.Bel.cB z a1 a2 a3 a4 a5 a6 c1 c2 c3 c4) cc cda cdv p1 p2 ∧ (a3.endLine == a5.line) = true
theorem ErrC.ofSub {y u qualB : Str} {B fB : Addr} (TB : ErrTxtB prog K y u qualB B fB) (T : ErrTxtS prog K x z qual C f B fB) (U : ErrCom prog K mg x C f) (Z : ErrTop prog K mg) : ErrC prog K mg x C z [B] := by
  obtain ⟨q, N, bv, sn, sub, ab, col, dd, k0, k1, k2, k3, k5, hC⟩ := T.cls
  obtain ⟨cc, cda, cdv, p1, p2, a1, a2, a3, a4, a5, a6, c1, c2, c3, c4, tx, hp⟩ := T.txt
  obtain ⟨ccB, cdaB, cdvB, p1B, p2B, a1B, a2B, a3B, a4B, a5B, a6B, b1B, b2B, b3B, b4B, c1B, c2B, c3B, c4B, txB, hpB⟩ := TB.txt
  refine { gC := U.gC, ga := U.ga, gg := U.gg, hdC := U.hdC, noP := U.noP, noN := U.noN, kC := U.kC, exC := U.exC, tyC := U.tyC, cls := ⟨q, N, bv, sn, sub, ab, col, dd, k0, k1, k2, k3, k5, hC⟩, ini := ⟨f, U.iC, U.tF, ?_⟩ }
  intro w A R s base x t0 v M hb hlim hx hnb hroom hq
  have XC : PySem.Bel.ExTxt K C B := { cls := ⟨z, q, N, bv, _, sn, sub, ab, col, dd, k0, k1, k2, k3, k5, hC, refsVE_map [B]⟩, sa := U.sa, noP := U.noP, noN := U.noN, below := (mro_of (l := [B]) hC B).trans (by simp), sup := T.supB, isV := U.isV }
  exact PySem.Bel.sub_init txB tx M hb Z.nosup Z.top Z.plain XC ((mro_of (l := [B]) hC C).trans (by simp)) T.supC TB.tF TB.fnF hlim hx hnb hroom hpB hp hq
end
end L2

set_option Elab.async false
set_option linter.all false
set_option maxRecDepth 100000
set_option maxHeartbeats 1000000
/-! A layer of data over HandS: what a def reckons is told by plain data (PyData); addresses and heaps stay below. -/
namespace DL
open PySem L2

/-! ### heaps -/
def Ex (H H' : Hp) : Prop := ∀ a o, H a = some o → H' a = some o
theorem Ex.refl (H : Hp) : Ex H H := fun _ _ h => h
theorem Ex.trans {H H1 H2 : Hp} (a : Ex H H1) (b : Ex H1 H2) : Ex H H2 := fun x o h => b x o (a x o h)
theorem Ex.new {H : Hp} {p : Addr} {o : HO} (h : H p = none) : Ex H (upd H p o) := fun a u e => by
  rw [upd_ne (ne_of_none e h)]
  exact e
theorem Ex.up {H H' : Hp} {p : Addr} {o : HO} (e : Ex H H') (h : H p = none) : Ex H (upd H' p o) := fun a u ha => by
  rw [upd_ne (ne_of_none ha h)]
  exact e a u ha
theorem Ex.both {G H : Hp} {p : Addr} {o : HO} (e : Ex G H) : Ex (upd G p o) (upd H p o) := fun a u ha => by
  by_cases h : a = p
  · subst h
    rw [upd_same] at ha ⊢
    exact ha
  · rw [upd_ne h] at ha ⊢
    exact e a u ha
theorem Ex.back {H H' : Hp} {p : Addr} (e : Ex H H') (h : H' p = none) : H p = none := by
  cases z : H p with
  | none => rfl
  | some o =>
    rw [e p o z] at h
    cases h
/-- all but the objects at S stay -/
def ExS (S : List Addr) (H H' : Hp) : Prop := ∀ a o, H a = some o → a ∉ S → H' a = some o
theorem ExS.refl (S : List Addr) (H : Hp) : ExS S H H := fun _ _ h _ => h
theorem ExS.trans {S : List Addr} {H H1 H2 : Hp} (a : ExS S H H1) (b : ExS S H1 H2) : ExS S H H2 := fun x o h n => b x o (a x o h n) n
theorem ExS.new {S : List Addr} {H : Hp} {p : Addr} {o : HO} (h : H p = none) : ExS S H (upd H p o) := fun a u e _ => Ex.new h a u e
theorem rd_mono {H H' : Hp} {a : Addr} {u : HO} (e : Ex H H') (h : Rd H a u) : Rd H' a u := by
  rcases h with h | ⟨o, h⟩
  · exact .inl (e a _ h)
  · exact .inr ⟨o, e a _ h⟩
theorem sqL_mono {K : PySem.W.Frag} {H H' : Hp} {a : Addr} {xs : List V} (e : Ex H H') (h : SqL K H a xs) : SqL K H' a xs := by
  rcases h with h | h
  · exact .inl (rd_mono e h)
  · exact .inr h
theorem sqT_mono {K : PySem.W.Frag} {H H' : Hp} {a : Addr} {xs : List V} (e : Ex H H') (h : SqT K H a xs) : SqT K H' a xs := by
  rcases h with h | h
  · exact .inl (rd_mono e h)
  · exact .inr h
mutual
theorem dp_mono {K : PySem.W.Frag} {G G' : Hp} (e : Ex G G') : ∀ {d : PyData} {v : V}, Dp K G v d → Dp K G' v d
  | .none, _, h => by cases h; exact .non
  | .bool _, _, h => by cases h; exact .bl _
  | .int _, _, h => by cases h; exact .int _
  | .str _, _, h => by cases h; exact .str _
  | .list _, _, h => by cases h with | lst s a => exact .lst (sqL_mono e s) (dpAll_mono e a)
  | .tuple _, _, h => by cases h with | tup s a => exact .tup (sqT_mono e s) (dpAll_mono e a)
  | .dict _, _, h => by cases h
theorem dpAll_mono {K : PySem.W.Frag} {G G' : Hp} (e : Ex G G') : ∀ {ds : List PyData} {vs : List V}, DpAll K G vs ds → DpAll K G' vs ds
  | [], _, h => by cases h; exact .nil
  | _ :: _, _, h => by cases h with | cons a b => exact .cons (dp_mono e a) (dpAll_mono e b)
end
section
variable {K : PySem.W.Frag} {G : Hp}
theorem dpAll_length : ∀ {vs : List V} {ds : List PyData}, DpAll K G vs ds → vs.length = ds.length
  | _, [], h => by cases h; rfl
  | _, _ :: _, h => by cases h with | cons a b => simp [dpAll_length b]
theorem dpAll_get : ∀ {vs : List V} {ds : List PyData} {i : Nat} {d : PyData}, DpAll K G vs ds → ds[i]? = some d → ∃ v, vs[i]? = some v ∧ Dp K G v d
  | _, [], _, _, _, e => by simp at e
  | _, _ :: _, 0, _, h, e => by
    cases h with
    | cons a b =>
      simp at e
      subst e
      exact ⟨_, rfl, a⟩
  | _, _ :: _, i + 1, _, h, e => by
    cases h with
    | cons a b =>
      obtain ⟨v, h1, h2⟩ := dpAll_get (i := i) b (by simpa using e)
      exact ⟨v, by simpa using h1, h2⟩
theorem dpAll_get' : ∀ {vs : List V} {ds : List PyData} {i : Nat} {v : V}, DpAll K G vs ds → vs[i]? = some v → ∃ d, ds[i]? = some d ∧ Dp K G v d
  | _, [], _, _, h, e => by cases h; simp at e
  | _, _ :: _, 0, _, h, e => by
    cases h with
    | cons a b =>
      simp at e
      subst e
      exact ⟨_, rfl, a⟩
  | _, _ :: _, i + 1, _, h, e => by
    cases h with
    | cons a b =>
      obtain ⟨v, h1, h2⟩ := dpAll_get' (i := i) b (by simpa using e)
      exact ⟨v, by simpa using h1, h2⟩
theorem dpAll_append : ∀ {vs ws : List V} {ds es : List PyData}, DpAll K G vs ds → DpAll K G ws es → DpAll K G (vs ++ ws) (ds ++ es)
  | _, _, [], _, h, k => by cases h; exact k
  | _, _, _ :: _, _, h, k => by cases h with | cons a b => exact .cons a (dpAll_append b k)
theorem dpAll_snoc {vs : List V} {v : V} {ds : List PyData} {d : PyData} (h : DpAll K G vs ds) (k : Dp K G v d) : DpAll K G (vs ++ [v]) (ds ++ [d]) := dpAll_append h (.cons k .nil)
theorem dpAll_set : ∀ {vs : List V} {ds : List PyData} (i : Nat) {v : V} {d : PyData}, DpAll K G vs ds → Dp K G v d → DpAll K G (vs.set i v) (ds.set i d)
  | _, [], _, _, _, h, _ => by cases h; exact .nil
  | _, _ :: _, 0, _, _, h, k => by cases h with | cons a b => exact .cons k b
  | _, _ :: _, i + 1, _, _, h, k => by cases h with | cons a b => exact .cons a (dpAll_set i b k)
theorem dpAll_take : ∀ {vs : List V} {ds : List PyData} (i : Nat), DpAll K G vs ds → DpAll K G (vs.take i) (ds.take i)
  | _, [], _, h => by cases h; simpa using DpAll.nil
  | _, _ :: _, 0, _ => .nil
  | _, _ :: _, i + 1, h => by cases h with | cons a b => exact .cons a (dpAll_take i b)
theorem dpAll_drop : ∀ {vs : List V} {ds : List PyData} (i : Nat), DpAll K G vs ds → DpAll K G (vs.drop i) (ds.drop i)
  | _, [], _, h => by cases h; simpa using DpAll.nil
  | _, _ :: _, 0, h => h
  | _, _ :: _, i + 1, h => by cases h with | cons a b => exact dpAll_drop i b
theorem dpAll_reverse : ∀ {vs : List V} {ds : List PyData}, DpAll K G vs ds → DpAll K G vs.reverse ds.reverse
  | _, [], h => by cases h; exact .nil
  | _, _ :: _, h => by
    cases h with
    | cons a b =>
      rw [List.reverse_cons, List.reverse_cons]
      exact dpAll_snoc (dpAll_reverse b) a
theorem dpAll_ints : ∀ {vs : List V} {ns : List Int}, DpAll K G vs (ns.map PyData.int) → vs = ns.map V.int
  | _, [], h => by cases h; rfl
  | _, _ :: _, h => by
    cases h with
    | cons a b =>
      cases a
      rw [List.map_cons, ← dpAll_ints b]
theorem dpAll_ofInts : ∀ (ns : List Int), DpAll K G (ns.map V.int) (ns.map PyData.int)
  | [] => .nil
  | _ :: r => .cons (.int _) (dpAll_ofInts r)
end

/-! ### data-level values, slots, the state -/
/-- a value as data; an opaque one (the state of the draws ..); what the slot i holds -/
inductive DV where
  | d (x : PyData) | o (v : V) | w (i : Nat)
/-- a slot: data that nobody changes; a list of its own; an opaque value -/
inductive Slt where
  | im (d : PyData) | ow (ds : List PyData) | op (v : V) | ex (a : Addr) (cls : Value) (d : Option Addr) (z : Str) (x : PyData)
abbrev DEnv := List (Option Slt)
structure Cn where
  P : Program
  K : PySem.W.Frag
  mg : Str → Option Value
  S : List Addr
  J : Hp → Prop
  H0 : Hp
  G0 : Hp
  jl : ∀ H H', J H → (∀ b, b ∈ S → H' b = H b) → J H'
  jn : ∀ H, J H → ∀ b, b ∈ S → H b ≠ none
/-- the heap H, of which G is what nobody changes, behind the entry at H0, G0 -/
structure Fin (C : Cn) (G H : Hp) : Prop where
  j : C.J H
  gs : ∀ b, b ∈ C.S → G b = none
  g0 : Ex C.G0 G
  gh : Ex G H
  h0 : ExS C.S C.H0 H
  gn : ∀ b, G b ≠ none → C.G0 b = none → C.H0 b = none
def OwnAt (C : Cn) (G H : Hp) (a : Addr) (vs : List V) : Prop := G a = none ∧ C.H0 a = none ∧ a ∉ C.S ∧ H a = some (.lst vs)
/-- an error that is held: its class, its dict; its name, its place -/
def ErrAt (C : Cn) (G H : Hp) (cls : Value) (d : Option Addr) (z : Str) (x : PyData) : Prop :=
  ∃ (Ca : Addr) (bs : List Addr) (dd : Addr) (v : V), ErrC C.P C.K C.mg z Ca z bs ∧ cls = .ref Ca ∧ d = some dd ∧ dd ∉ C.S ∧ H dd = some (.xd (errF z v)) ∧ Dp C.K G v x
theorem ErrAt.to {C : Cn} {G H G' H' : Hp} {cls : Value} {d : Option Addr} {z : Str} {x : PyData} (e : Ex G G') (eh : ExS C.S H H') : ErrAt C G H cls d z x → ErrAt C G' H' cls d z x
  | ⟨Ca, bs, dd, v, h1, h2, h3, h4, h5, h6⟩ => ⟨Ca, bs, dd, v, h1, h2, h3, h4, eh dd _ h5 h4, dp_mono e h6⟩
structure Rel (C : Cn) (ρ : DEnv) (σ : L2.St) (G H : Hp) : Prop where
  fin : Fin C G H
  len : σ.length = ρ.length
  im : ∀ (i : Nat) d, ρ[i]? = some (some (.im d)) → ∃ v, σ[i]? = some (some v) ∧ Dp C.K G v d
  op : ∀ (i : Nat) v, ρ[i]? = some (some (.op v)) → σ[i]? = some (some v)
  ow : ∀ (i : Nat) ds, ρ[i]? = some (some (.ow ds)) → ∃ a vs, σ[i]? = some (some (.ref a)) ∧ OwnAt C G H a vs ∧ DpAll C.K G vs ds
  ex : ∀ (i : Nat) a cls d z x, ρ[i]? = some (some (.ex a cls d z x)) → σ[i]? = some (some (.ref a)) ∧ ErrAt C G H cls d z x
  sep : ∀ (i j : Nat) ds es a, i ≠ j → ρ[i]? = some (some (.ow ds)) → ρ[j]? = some (some (.ow es)) → σ[i]? = some (some (.ref a)) → σ[j]? ≠ some (some (.ref a))
def Dv (K : PySem.W.Frag) (σ : L2.St) (G : Hp) (v : V) : DV → Prop
  | .d x => Dp K G v x
  | .o u => v = u
  | .w i => σ[i]? = some (some v)
theorem dv_mono {K : PySem.W.Frag} {σ : L2.St} {G G' : Hp} {v : V} (e : Ex G G') : ∀ {x : DV}, Dv K σ G v x → Dv K σ G' v x
  | .d _, h => dp_mono e h
  | .o _, h => h
  | .w _, h => h
/-- what an evaluation may do: G grows, H grows, but for what stands at S -/
structure Nxt (C : Cn) (ρ : DEnv) (σ : L2.St) (G H G' H' : Hp) : Prop where
  rel : Rel C ρ σ G' H'
  eg : Ex G G'
  eh : ExS C.S H H'
  nw : ∀ b, G' b ≠ none → G b = none → H b = none
theorem Nxt.refl {C : Cn} {ρ : DEnv} {σ : L2.St} {G H : Hp} (R : Rel C ρ σ G H) : Nxt C ρ σ G H G H := ⟨R, .refl _, .refl _ _, fun _ h1 h2 => absurd h2 h1⟩
theorem Fin.nS {C : Cn} {G H : Hp} (F : Fin C G H) {p : Addr} (hp : H p = none) : p ∉ C.S := fun m => C.jn H F.j p m hp
theorem Fin.n0 {C : Cn} {G H : Hp} (F : Fin C G H) {p : Addr} (hp : H p = none) : C.H0 p = none := by
  cases e : C.H0 p with
  | none => rfl
  | some o =>
    have := F.h0 p o e (F.nS hp)
    rw [hp] at this
    cases this
theorem Fin.nG {C : Cn} {G H : Hp} (F : Fin C G H) {p : Addr} (hp : H p = none) : G p = none := F.gh.back hp
/-- a new object that nobody changes -/
theorem Fin.newIm {C : Cn} {G H : Hp} (F : Fin C G H) {p : Addr} (hp : H p = none) (o : HO) : Fin C (upd G p o) (upd H p o) where
  j := C.jl H _ F.j fun b hb => upd_ne (fun e => C.jn H F.j b hb (e ▸ hp))
  gs := fun b hb => by
    have e : b ≠ p := fun e => C.jn H F.j b hb (by rw [e]; exact hp)
    rw [upd_ne e]
    exact F.gs b hb
  g0 := F.g0.trans (Ex.new (F.nG hp))
  gh := F.gh.both
  h0 := F.h0.trans (ExS.new hp)
  gn := fun b hb h => by
    by_cases e : b = p
    · rw [e]
      exact F.n0 hp
    · rw [upd_ne e] at hb
      exact F.gn b hb h
/-- a new object of its own -/
theorem Fin.newOw {C : Cn} {G H : Hp} (F : Fin C G H) {p : Addr} (hp : H p = none) (o : HO) : Fin C G (upd H p o) where
  j := C.jl H _ F.j fun b hb => upd_ne (fun e => C.jn H F.j b hb (e ▸ hp))
  gs := F.gs
  g0 := F.g0
  gh := F.gh.up (F.nG hp)
  h0 := F.h0.trans (ExS.new hp)
  gn := F.gn
/-- an object of its own is changed -/
theorem Fin.setOw {C : Cn} {G H : Hp} (F : Fin C G H) {p : Addr} (hG : G p = none) (h0 : C.H0 p = none) (hS : p ∉ C.S) (o : HO) : Fin C G (upd H p o) where
  j := C.jl H _ F.j fun b hb => upd_ne (fun e => hS (e ▸ hb))
  gs := F.gs
  g0 := F.g0
  gh := F.gh.up hG
  h0 := fun b u hb n => by
    rw [upd_ne (ne_of_none hb h0)]
    exact F.h0 b u hb n
  gn := F.gn
/-- an object of its own is handed over -/
theorem Fin.freeze {C : Cn} {G H : Hp} (F : Fin C G H) {p : Addr} (h0 : C.H0 p = none) (hS : p ∉ C.S) {o : HO} (hH : H p = some o) (hG : G p = none) : Fin C (upd G p o) H where
  j := F.j
  gs := fun b hb => by
    have e : b ≠ p := fun e => hS (by rw [← e]; exact hb)
    rw [upd_ne e]
    exact F.gs b hb
  g0 := F.g0.trans (Ex.new hG)
  gh := fun b u hb => by
    by_cases e : b = p
    · subst e
      rw [upd_same] at hb
      cases hb
      exact hH
    · rw [upd_ne e] at hb
      exact F.gh b u hb
  h0 := F.h0
  gn := fun b hb h => by
    by_cases e : b = p
    · rw [e]
      exact h0
    · rw [upd_ne e] at hb
      exact F.gn b hb h
theorem Fin.backS {C : Cn} {H H' G' : Hp} (j : C.J H) (F' : Fin C G' H') (e : ExS C.S H H') {b : Addr} (h : H' b = none) : H b = none := by
  cases z : H b with
  | none => rfl
  | some o =>
    by_cases hs : b ∈ C.S
    · exact absurd h (C.jn H' F'.j b hs)
    · have y := e b o z hs
      rw [h] at y
      cases y
theorem Nxt.trans {C : Cn} {ρ : DEnv} {σ : L2.St} {G H G1 H1 G2 H2 : Hp} (a : Nxt C ρ σ G H G1 H1) (b : Nxt C ρ σ G1 H1 G2 H2) (j : C.J H) : Nxt C ρ σ G H G2 H2 :=
  ⟨b.rel, a.eg.trans b.eg, a.eh.trans b.eh, fun x h1 h2 => by
    cases z : G1 x with
    | none => exact Fin.backS j a.rel.fin a.eh (b.nw x h1 z)
    | some o => exact a.nw x (by rw [z]; exact fun q => by cases q) h2⟩
section
variable {C : Cn} {ρ : DEnv} {σ : L2.St} {G H G' H' : Hp} {p : Addr}
/-- the slots stand, whatever was made -/
theorem Rel.to (R : Rel C ρ σ G H) (F : Fin C G' H') (eg : Ex G G') (eh : ExS C.S H H') (hn : ∀ b, G' b ≠ none → G b = none → H b = none) : Rel C ρ σ G' H' where
  fin := F
  len := R.len
  im := fun i d h => by
    obtain ⟨v, h1, h2⟩ := R.im i d h
    exact ⟨v, h1, dp_mono eg h2⟩
  op := R.op
  ow := fun i ds h => by
    obtain ⟨a, vs, h1, ⟨h2, h3, h4, h5⟩, h6⟩ := R.ow i ds h
    refine ⟨a, vs, h1, ⟨?_, h3, h4, eh a _ h5 h4⟩, dpAll_mono eg h6⟩
    cases e : G' a with
    | none => rfl
    | some o =>
      have z := hn a (by rw [e]; exact fun q => by cases q) h2
      rw [h5] at z
      cases z
  ex := fun i a cls d z x h => by
    obtain ⟨h1, h2⟩ := R.ex i a cls d z x h
    exact ⟨h1, h2.to eg eh⟩
  sep := R.sep
theorem Rel.newIm (R : Rel C ρ σ G H) (hp : H p = none) (o : HO) : Nxt C ρ σ G H (upd G p o) (upd H p o) :=
  ⟨R.to (R.fin.newIm hp o) (Ex.new (R.fin.nG hp)) (ExS.new hp) (fun b hb h => by
    by_cases e : b = p
    · rw [e]; exact hp
    · rw [upd_ne e] at hb
      exact absurd h hb), Ex.new (R.fin.nG hp), ExS.new hp, fun b hb h => by
    by_cases e : b = p
    · rw [e]; exact hp
    · rw [upd_ne e] at hb
      exact absurd h hb⟩
theorem Rel.newOw (R : Rel C ρ σ G H) (hp : H p = none) (o : HO) : Nxt C ρ σ G H G (upd H p o) :=
  ⟨R.to (R.fin.newOw hp o) (.refl _) (ExS.new hp) (fun b hb h => absurd h hb), .refl _, ExS.new hp, fun b hb h => absurd h hb⟩
end

/-! ### readings by data -/
section
variable (C : Cn)
def WE (te : TE) (ρ : DEnv) (Q : DV → Prop) : Prop := ∀ (σ : L2.St) (G H : Hp) (Q0 : VK), Rel C ρ σ G H → (∀ x v G' H', Q x → Nxt C ρ σ G H G' H' → Dv C.K σ G' v x → Q0 v H') → te σ H Q0
def WT (tt : TT) (ρ : DEnv) (Q : Bool → Prop) : Prop := ∀ (σ : L2.St) (G H : Hp) (Q0 : Bool → Hp → Prop), Rel C ρ σ G H → (∀ b G' H', Q b → Nxt C ρ σ G H G' H' → Q0 b H') → tt σ H Q0
inductive DvAll (K : PySem.W.Frag) (σ : L2.St) (G : Hp) : List V → List DV → Prop
  | nil : DvAll K σ G [] []
  | cons {v : V} {vs : List V} {d : DV} {ds : List DV} : Dv K σ G v d → DvAll K σ G vs ds → DvAll K σ G (v :: vs) (d :: ds)
def WA (ta : TA) (ρ : DEnv) (Q : List DV → Prop) : Prop := ∀ (σ : L2.St) (G H : Hp) (Q0 : List V → Hp → Prop), Rel C ρ σ G H → (∀ xs vs G' H', Q xs → Nxt C ρ σ G H G' H' → DvAll C.K σ G' vs xs → Q0 vs H') → ta σ H Q0
/-- a new list, not yet anybody's -/
def WEL (te : TE) (ρ : DEnv) (Q : List PyData → Prop) : Prop := ∀ (σ : L2.St) (G H : Hp) (Q0 : VK), Rel C ρ σ G H →
  (∀ xs vs p G' H', Q xs → Nxt C ρ σ G H G' H' → H p = none → G' p = none → H' p = some (.lst vs) → DpAll C.K G' vs xs → Q0 (.ref p) H') → te σ H Q0
/-- an operation on values -/
def RO (r : R2) (x y : DV) (ρ : DEnv) (Q : DV → Prop) : Prop := ∀ (σ : L2.St) (G H : Hp) (u v : V) (Q0 : VK), Rel C ρ σ G H → Dv C.K σ G u x → Dv C.K σ G v y →
  (∀ z w G' H', Q z → Nxt C ρ σ G H G' H' → Dv C.K σ G' w z → Q0 w H') → r u v H Q0
def RU (r : V → Hp → VK → Prop) (x : DV) (ρ : DEnv) (Q : DV → Prop) : Prop := ∀ (σ : L2.St) (G H : Hp) (u : V) (Q0 : VK), Rel C ρ σ G H → Dv C.K σ G u x →
  (∀ z w G' H', Q z → Nxt C ρ σ G H G' H' → Dv C.K σ G' w z → Q0 w H') → r u H Q0
def RC (r : List V → Hp → VK → Prop) (xs : List DV) (ρ : DEnv) (Q : DV → Prop) : Prop := ∀ (σ : L2.St) (G H : Hp) (vs : List V) (Q0 : VK), Rel C ρ σ G H → DvAll C.K σ G vs xs →
  (∀ z w G' H', Q z → Nxt C ρ σ G H G' H' → Dv C.K σ G' w z → Q0 w H') → r vs H Q0
end
theorem dvAll_mono {K : PySem.W.Frag} {σ : L2.St} {G G' : Hp} (e : Ex G G') : ∀ {vs : List V} {xs : List DV}, DvAll K σ G vs xs → DvAll K σ G' vs xs
  | _, _, .nil => .nil
  | _, _, .cons a b => .cons (dv_mono e a) (dvAll_mono e b)
section
variable {C : Cn} {ρ : DEnv} {te ta tb : TE} {tt tu : TT} {r : R2} {Q : DV → Prop}
theorem we_mono {Q' : DV → Prop} (h : WE C te ρ Q) (k : ∀ x, Q x → Q' x) : WE C te ρ Q' := fun σ G H Q0 R q => h σ G H Q0 R fun x v G' H' hx => q x v G' H' (k x hx)
theorem we_im {i : Nat} {d : PyData} (h : ρ[i]? = some (some (.im d))) (q : Q (.d d)) : WE C (tVar i) ρ Q := fun σ G H Q0 R k => by
  obtain ⟨v, h1, h2⟩ := R.im i d h
  exact ⟨v, h1, k _ v G H q (.refl R) h2⟩
theorem we_ow {i : Nat} {ds : List PyData} (h : ρ[i]? = some (some (.ow ds))) (q : Q (.w i)) : WE C (tVar i) ρ Q := fun σ G H Q0 R k => by
  obtain ⟨a, vs, h1, _, _⟩ := R.ow i ds h
  exact ⟨_, h1, k _ _ G H q (.refl R) h1⟩
theorem we_opq {i : Nat} {u : V} (h : ρ[i]? = some (some (.op u))) (q : Q (.o u)) : WE C (tVar i) ρ Q := fun σ G H Q0 R k => ⟨u, R.op i u h, k _ _ G H q (.refl R) rfl⟩
theorem we_int {i : Int} (q : Q (.d (.int i))) : WE C (tC (.int i)) ρ Q := fun σ G H Q0 R k => k _ _ G H q (.refl R) (.int i)
theorem we_bl {b : Bool} (q : Q (.d (.bool b))) : WE C (tC (.bl b)) ρ Q := fun σ G H Q0 R k => k _ _ G H q (.refl R) (.bl b)
theorem we_str {x : Str} (q : Q (.d (.str x))) : WE C (tC (.str x)) ρ Q := fun σ G H Q0 R k => k _ _ G H q (.refl R) (.str x)
theorem we_non (q : Q (.d .none)) : WE C (tC .non) ρ Q := fun σ G H Q0 R k => k _ _ G H q (.refl R) .non
theorem we_op (h : WE C ta ρ fun x => WE C tb ρ fun y => RO C r x y ρ Q) : WE C (tOp r ta tb) ρ Q := fun σ G H Q0 R k =>
  h σ G H _ R fun x u G1 H1 h1 n1 d1 => h1 σ G1 H1 _ n1.rel fun y v G2 H2 h2 n2 d2 => h2 σ G2 H2 u v Q0 n2.rel (dv_mono n2.eg d1) d2 fun z w G3 H3 hz n3 d3 => k z w G3 H3 hz ((n1.trans n2 R.fin.j).trans n3 R.fin.j) d3
theorem we_un {r : V → Hp → VK → Prop} (h : WE C ta ρ fun x => RU C r x ρ Q) : WE C (tUn r ta) ρ Q := fun σ G H Q0 R k =>
  h σ G H _ R fun x u G1 H1 h1 n1 d1 => h1 σ G1 H1 u Q0 n1.rel d1 fun z w G3 H3 hz n3 d3 => k z w G3 H3 hz (n1.trans n3 R.fin.j) d3
theorem wa_nil {Q : List DV → Prop} (q : Q []) : WA C tNil ρ Q := fun σ G H Q0 R k => k [] [] G H q (.refl R) .nil
theorem wa_cons {t : TA} {Q : List DV → Prop} (h : WE C te ρ fun x => WA C t ρ fun xs => Q (x :: xs)) : WA C (tCons te t) ρ Q := fun σ G H Q0 R k =>
  h σ G H _ R fun x u G1 H1 h1 n1 d1 => h1 σ G1 H1 _ n1.rel fun xs vs G2 H2 h2 n2 d2 => k (x :: xs) (u :: vs) G2 H2 h2 (n1.trans n2 R.fin.j) (.cons (dv_mono n2.eg d1) d2)
theorem we_cb {r : List V → Hp → VK → Prop} {t : TA} (h : WA C t ρ fun xs => RC C r xs ρ Q) : WE C (tCB r t) ρ Q := fun σ G H Q0 R k =>
  h σ G H _ R fun xs vs G1 H1 h1 n1 d1 => h1 σ G1 H1 vs Q0 n1.rel d1 fun z w G3 H3 hz n3 d3 => k z w G3 H3 hz (n1.trans n3 R.fin.j) d3
/-- all are data -/
def datas : List DV → Option (List PyData)
  | [] => some []
  | .d x :: r => (datas r).map (x :: ·)
  | _ :: _ => none
theorem datas_all {K : PySem.W.Frag} {σ : L2.St} {G : Hp} : ∀ {vs : List V} {xs : List DV} {ds : List PyData}, DvAll K σ G vs xs → datas xs = some ds → DpAll K G vs ds
  | _, _, _, .nil, e => by cases e; exact .nil
  | _, _, _, .cons (d := .d x) a b, e => by
    unfold datas at e
    obtain ⟨r, h1, h2⟩ := Option.map_eq_some_iff.mp e
    subst h2
    exact .cons a (datas_all b h1)
  | _, _, _, .cons (d := .o _) _ _, e => by cases e
  | _, _, _, .cons (d := .w _) _ _, e => by cases e
theorem we_tup {t : TA} (h : WA C t ρ fun xs => ∃ ds, datas xs = some ds ∧ ds.length ≤ 100000 ∧ Q (.d (.tuple ds))) : WE C (tTup t) ρ Q := fun σ G H Q0 R k =>
  h σ G H _ R fun xs vs G1 H1 ⟨ds, e, hl, q⟩ n1 d1 => by
    have da := datas_all d1 e
    refine ⟨by rw [dpAll_length da, sizeLine_eq]; omega, fun p hp => ?_⟩
    have n2 := n1.rel.newIm hp (.tup vs)
    exact k _ _ _ _ q (n1.trans n2 R.fin.j) (.tup (SqT.of upd_same) (dpAll_mono n2.eg da))
theorem wel_lst {t : TA} {Q : List PyData → Prop} (h : WA C t ρ fun xs => ∃ ds, datas xs = some ds ∧ ds.length ≤ 100000 ∧ Q ds) : WEL C (tLst t) ρ Q := fun σ G H Q0 R k =>
  h σ G H _ R fun xs vs G1 H1 ⟨ds, e, hl, q⟩ n1 d1 => by
    have da := datas_all d1 e
    refine ⟨by rw [dpAll_length da, sizeLine_eq]; omega, fun p hp => ?_⟩
    have n2 := n1.rel.newOw hp (.lst vs)
    have hpH : H p = none := Fin.backS R.fin.j n1.rel.fin n1.eh hp
    exact k ds vs p _ _ q (n1.trans n2 R.fin.j) hpH (n1.rel.fin.nG hp) upd_same da
/-- a new list as data -/
theorem we_of_wel (h : WEL C te ρ fun ds => Q (.d (.list ds))) : WE C te ρ Q := fun σ G H Q0 R k => h σ G H Q0 R fun ds vs p G' H' q n hp hG hH da => by
  have nw : ∀ b, upd G' p (.lst vs) b ≠ none → G b = none → H b = none := fun b hb h => by
    by_cases e : b = p
    · rw [e]; exact hp
    · rw [upd_ne e] at hb
      exact n.nw b hb h
  have hn : Nxt C ρ σ G H (upd G' p (.lst vs)) H' :=
    ⟨R.to (n.rel.fin.freeze (R.fin.n0 hp) (R.fin.nS hp) hH hG) (n.eg.trans (Ex.new hG)) n.eh nw, n.eg.trans (Ex.new hG), n.eh, nw⟩
  exact k _ _ _ _ q hn (.lst (SqL.of upd_same) (dpAll_mono (Ex.new hG) da))
end
end DL

set_option Elab.async false
set_option linter.all false
set_option maxRecDepth 100000
set_option maxHeartbeats 1000000
/-! The layer of data: slots stored, statements, loops, comprehensions, defs. -/
namespace DL
open PySem L2
section
variable {C : Cn} {ρ : DEnv} {σ : L2.St} {G H G' H' : Hp} {i : Nat}
theorem set_get {α : Type} {l : List (Option α)} {i j : Nat} {x : Option α} {y : α} (h : (l.set i x)[j]? = some (some y)) : (j = i ∧ x = some y) ∨ (j ≠ i ∧ l[j]? = some (some y)) := by
  by_cases e : i = j
  · subst e
    rw [List.getElem?_set_self'] at h
    cases z : l[i]? with
    | none =>
      rw [z] at h
      cases h
    | some u =>
      rw [z] at h
      exact .inl ⟨rfl, Option.some.inj h⟩
  · rw [List.getElem?_set_ne e] at h
    exact .inr ⟨fun q => e q.symm, h⟩
theorem lt_of_get {α : Type} {l : List α} {i : Nat} {x : α} (h : l[i]? = some x) : i < l.length := (List.getElem?_eq_some_iff.mp h).1
theorem set_at {α : Type} {l : List α} {i : Nat} {x : α} (h : i < l.length) : (l.set i x)[i]? = some x := by
  rw [List.getElem?_set_self h]
theorem set_off {α : Type} {l : List α} {i j : Nat} {x : α} (h : j ≠ i) : (l.set i x)[j]? = l[j]? := List.getElem?_set_ne (fun e => h e.symm)
/-- a slot is stored: data, an opaque value, nothing -/
theorem Rel.setIm (R : Rel C ρ σ G H) {v : V} {d : PyData} (h : Dp C.K G v d) : Rel C (ρ.set i (some (.im d))) (σ.set i (some v)) G H where
  fin := R.fin
  len := by simp [R.len]
  im := fun j e hj => by
    rcases set_get hj with ⟨rfl, q⟩ | ⟨n, q⟩
    · cases q
      have l : j < σ.length := by
        have := lt_of_get hj
        rw [List.length_set, ← R.len] at this
        exact this
      exact ⟨v, set_at l, h⟩
    · rw [set_off n]
      exact R.im j e q
  op := fun j e hj => by
    rcases set_get hj with ⟨_, q⟩ | ⟨n, q⟩
    · cases q
    · rw [set_off n]
      exact R.op j e q
  ow := fun j e hj => by
    rcases set_get hj with ⟨_, q⟩ | ⟨n, q⟩
    · cases q
    · rw [set_off n]
      exact R.ow j e q
  ex := fun j a cls d z x hj => by
    rcases set_get hj with ⟨_, q⟩ | ⟨n, q⟩
    · cases q
    · rw [set_off n]
      exact R.ex j a cls d z x q
  sep := fun j k ds es a n hj hk ha => by
    rcases set_get hj with ⟨_, q⟩ | ⟨n1, q1⟩
    · cases q
    · rcases set_get hk with ⟨_, q⟩ | ⟨n2, q2⟩
      · cases q
      · rw [set_off n1] at ha
        rw [set_off n2]
        exact R.sep j k ds es a n q1 q2 ha
theorem Rel.setOp (R : Rel C ρ σ G H) {v : V} : Rel C (ρ.set i (some (.op v))) (σ.set i (some v)) G H where
  fin := R.fin
  len := by simp [R.len]
  im := fun j e hj => by
    rcases set_get hj with ⟨_, q⟩ | ⟨n, q⟩
    · cases q
    · rw [set_off n]
      exact R.im j e q
  op := fun j e hj => by
    rcases set_get hj with ⟨rfl, q⟩ | ⟨n, q⟩
    · cases q
      have l : j < σ.length := by
        have := lt_of_get hj
        rw [List.length_set, ← R.len] at this
        exact this
      exact set_at l
    · rw [set_off n]
      exact R.op j e q
  ow := fun j e hj => by
    rcases set_get hj with ⟨_, q⟩ | ⟨n, q⟩
    · cases q
    · rw [set_off n]
      exact R.ow j e q
  ex := fun j a cls d z x hj => by
    rcases set_get hj with ⟨_, q⟩ | ⟨n, q⟩
    · cases q
    · rw [set_off n]
      exact R.ex j a cls d z x q
  sep := fun j k ds es a n hj hk ha => by
    rcases set_get hj with ⟨_, q⟩ | ⟨n1, q1⟩
    · cases q
    · rcases set_get hk with ⟨_, q⟩ | ⟨n2, q2⟩
      · cases q
      · rw [set_off n1] at ha
        rw [set_off n2]
        exact R.sep j k ds es a n q1 q2 ha
theorem Rel.setNo (R : Rel C ρ σ G H) : Rel C (ρ.set i none) (σ.set i none) G H where
  fin := R.fin
  len := by simp [R.len]
  im := fun j e hj => by
    rcases set_get hj with ⟨_, q⟩ | ⟨n, q⟩
    · cases q
    · rw [set_off n]
      exact R.im j e q
  op := fun j e hj => by
    rcases set_get hj with ⟨_, q⟩ | ⟨n, q⟩
    · cases q
    · rw [set_off n]
      exact R.op j e q
  ow := fun j e hj => by
    rcases set_get hj with ⟨_, q⟩ | ⟨n, q⟩
    · cases q
    · rw [set_off n]
      exact R.ow j e q
  ex := fun j a cls d z x hj => by
    rcases set_get hj with ⟨_, q⟩ | ⟨n, q⟩
    · cases q
    · rw [set_off n]
      exact R.ex j a cls d z x q
  sep := fun j k ds es a n hj hk ha => by
    rcases set_get hj with ⟨_, q⟩ | ⟨n1, q1⟩
    · cases q
    · rcases set_get hk with ⟨_, q⟩ | ⟨n2, q2⟩
      · cases q
      · rw [set_off n1] at ha
        rw [set_off n2]
        exact R.sep j k ds es a n q1 q2 ha
/-- an error is held in the slot -/
theorem Rel.setEx (R : Rel C ρ σ G H) {a : Addr} {cls : Value} {d : Option Addr} {z : Str} {x : PyData} (h : ErrAt C G H cls d z x) : Rel C (ρ.set i (some (.ex a cls d z x))) (σ.set i (some (.ref a))) G H where
  fin := R.fin
  len := by simp [R.len]
  im := fun j e hj => by
    rcases set_get hj with ⟨_, q⟩ | ⟨n, q⟩
    · cases q
    · rw [set_off n]
      exact R.im j e q
  op := fun j e hj => by
    rcases set_get hj with ⟨_, q⟩ | ⟨n, q⟩
    · cases q
    · rw [set_off n]
      exact R.op j e q
  ow := fun j e hj => by
    rcases set_get hj with ⟨_, q⟩ | ⟨n, q⟩
    · cases q
    · rw [set_off n]
      exact R.ow j e q
  ex := fun j a' cls' d' z' x' hj => by
    rcases set_get hj with ⟨rfl, q⟩ | ⟨n, q⟩
    · cases q
      have l : j < σ.length := by
        have := lt_of_get hj
        rw [List.length_set, ← R.len] at this
        exact this
      exact ⟨set_at l, h⟩
    · rw [set_off n]
      exact R.ex j a' cls' d' z' x' q
  sep := fun j k ds es a n hj hk ha => by
    rcases set_get hj with ⟨_, q⟩ | ⟨n1, q1⟩
    · cases q
    · rcases set_get hk with ⟨_, q⟩ | ⟨n2, q2⟩
      · cases q
      · rw [set_off n1] at ha
        rw [set_off n2]
        exact R.sep j k ds es a n q1 q2 ha
/-- a new list becomes the slot's own; no other slot holds it -/
theorem Rel.setOw (R : Rel C ρ σ G H) {p : Addr} {vs : List V} {ds : List PyData} (o : OwnAt C G H p vs) (h : DpAll C.K G vs ds) (nx : ∀ (j : Nat) es, j ≠ i → ρ[j]? = some (some (.ow es)) → σ[j]? ≠ some (some (.ref p))) :
    Rel C (ρ.set i (some (.ow ds))) (σ.set i (some (.ref p))) G H where
  fin := R.fin
  len := by simp [R.len]
  im := fun j e hj => by
    rcases set_get hj with ⟨_, q⟩ | ⟨n, q⟩
    · cases q
    · rw [set_off n]
      exact R.im j e q
  op := fun j e hj => by
    rcases set_get hj with ⟨_, q⟩ | ⟨n, q⟩
    · cases q
    · rw [set_off n]
      exact R.op j e q
  ow := fun j e hj => by
    rcases set_get hj with ⟨rfl, q⟩ | ⟨n, q⟩
    · cases q
      have l : j < σ.length := by
        have := lt_of_get hj
        rw [List.length_set, ← R.len] at this
        exact this
      exact ⟨p, vs, set_at l, o, h⟩
    · rw [set_off n]
      exact R.ow j e q
  ex := fun j a cls d z x hj => by
    rcases set_get hj with ⟨_, q⟩ | ⟨n, q⟩
    · cases q
    · rw [set_off n]
      exact R.ex j a cls d z x q
  sep := fun j k ds' es a n hj hk ha => by
    rcases set_get hj with ⟨rfl, q⟩ | ⟨n1, q1⟩
    · have l : j < σ.length := by
        have := lt_of_get hj
        rw [List.length_set, ← R.len] at this
        exact this
      rw [set_at l] at ha
      cases ha
      have nk : k ≠ j := fun e => n e.symm
      rcases set_get hk with ⟨e, _⟩ | ⟨_, q2⟩
      · exact absurd e nk
      · rw [set_off nk]
        exact nx k es nk q2
    · rw [set_off n1] at ha
      rcases set_get hk with ⟨rfl, q⟩ | ⟨n2, q2⟩
      · have l : k < σ.length := by
          have := lt_of_get hk
          rw [List.length_set, ← R.len] at this
          exact this
        rw [set_at l]
        intro e
        cases e
        exact nx j ds' n q1 ha
      · rw [set_off n2]
        exact R.sep j k ds' es a n q1 q2 ha
/-- the slot's own list is changed -/
theorem Rel.chOw (R : Rel C ρ σ G H) {ds es : List PyData} {p : Addr} {vs ws : List V} (hi : ρ[i]? = some (some (.ow ds))) (hs : σ[i]? = some (some (.ref p))) (o : OwnAt C G H p vs) (h : DpAll C.K G ws es) :
    Rel C (ρ.set i (some (.ow es))) σ G (upd H p (.lst ws)) where
  fin := R.fin.setOw o.1 o.2.1 o.2.2.1 _
  len := by simp [R.len]
  im := fun j e hj => by
    rcases set_get hj with ⟨_, q⟩ | ⟨n, q⟩
    · cases q
    · exact R.im j e q
  op := fun j e hj => by
    rcases set_get hj with ⟨_, q⟩ | ⟨n, q⟩
    · cases q
    · exact R.op j e q
  ow := fun j e hj => by
    rcases set_get hj with ⟨rfl, q⟩ | ⟨n, q⟩
    · cases q
      exact ⟨p, ws, hs, ⟨o.1, o.2.1, o.2.2.1, upd_same⟩, h⟩
    · obtain ⟨a, us, h1, ⟨h2, h3, h4, h5⟩, h6⟩ := R.ow j e q
      have ne : a ≠ p := fun z => by
        subst z
        exact R.sep i j ds e a (fun z => n z.symm) hi q hs h1
      exact ⟨a, us, h1, ⟨h2, h3, h4, by rw [upd_ne ne]; exact h5⟩, h6⟩
  ex := fun j a cls d z x hj => by
    rcases set_get hj with ⟨_, q⟩ | ⟨n, q⟩
    · cases q
    · obtain ⟨h1, Ca, bs, dd, v, h2, h3, h4, h5, h6, h7⟩ := R.ex j a cls d z x q
      have ne : dd ≠ p := fun z => by
        rw [z, o.2.2.2] at h6
        cases h6
      exact ⟨h1, Ca, bs, dd, v, h2, h3, h4, h5, by rw [upd_ne ne]; exact h6, h7⟩
  sep := fun j k ds' es' a n hj hk ha => by
    have key : ∀ {j : Nat} {e : List PyData}, (ρ.set i (some (.ow es)))[j]? = some (some (.ow e)) → ∃ e', ρ[j]? = some (some (.ow e')) := fun {j e} hj => by
      rcases set_get hj with ⟨rfl, _⟩ | ⟨_, q⟩
      · exact ⟨_, hi⟩
      · exact ⟨_, q⟩
    obtain ⟨_, q1⟩ := key hj
    obtain ⟨_, q2⟩ := key hk
    exact R.sep j k _ _ a n q1 q2 ha
end

/-! ### statements -/
structure DE where
  nx : DEnv → Prop
  rt : DV → Prop
  bk : DEnv → Prop := fun _ => False
  ct : DEnv → Prop := fun _ => False
structure EndsOk (C : Cn) (D : DE) (D0 : Ends) (G : Hp) : Prop where
  nx : ∀ ρ σ G' H', D.nx ρ → Rel C ρ σ G' H' → Ex G G' → D0.nx σ H'
  rt : ∀ x v G' H', D.rt x → Fin C G' H' → Dv C.K [] G' v x → D0.rt v H'
  bk : ∀ ρ σ G' H', D.bk ρ → Rel C ρ σ G' H' → Ex G G' → D0.bk σ H'
  ct : ∀ ρ σ G' H', D.ct ρ → Rel C ρ σ G' H' → Ex G G' → D0.ct σ H'
theorem EndsOk.mono {C : Cn} {D : DE} {D0 : Ends} {G G' : Hp} (h : EndsOk C D D0 G) (e : Ex G G') : EndsOk C D D0 G' :=
  ⟨fun ρ σ g H a b c => h.nx ρ σ g H a b (e.trans c), h.rt, fun ρ σ g H a b c => h.bk ρ σ g H a b (e.trans c), fun ρ σ g H a b c => h.ct ρ σ g H a b (e.trans c)⟩
def WS (C : Cn) (ts : TS) (ρ : DEnv) (D : DE) : Prop := ∀ (σ : L2.St) (G H : Hp) (D0 : Ends), Rel C ρ σ G H → EndsOk C D D0 G → ts D0 σ H
section
variable {C : Cn} {ρ : DEnv} {D : DE} {te ta tb : TE} {ts tu : TS} {tc tt : TT}
theorem ws_next (h : D.nx ρ) : WS C tNext ρ D := fun σ G H D0 R E => E.nx ρ σ G H h R (.refl _)
theorem ws_break (h : D.bk ρ) : WS C tBreak ρ D := fun σ G H D0 R E => E.bk ρ σ G H h R (.refl _)
theorem ws_cont (h : D.ct ρ) : WS C tCont ρ D := fun σ G H D0 R E => E.ct ρ σ G H h R (.refl _)
theorem ws_mono {D' : DE} (h : WS C ts ρ D) (n : ∀ ρ, D.nx ρ → D'.nx ρ) (r : ∀ x, D.rt x → D'.rt x) (b : ∀ ρ, D.bk ρ → D'.bk ρ) (c : ∀ ρ, D.ct ρ → D'.ct ρ) : WS C ts ρ D' := fun σ G H D0 R E =>
  h σ G H D0 R ⟨fun ρ σ g H a => E.nx ρ σ g H (n ρ a), fun x v g H a => E.rt x v g H (r x a), fun ρ σ g H a => E.bk ρ σ g H (b ρ a), fun ρ σ g H a => E.ct ρ σ g H (c ρ a)⟩
theorem ws_seq (h : WS C ts ρ { D with nx := fun ρ' => WS C tu ρ' D }) : WS C (tSeq ts tu) ρ D := fun σ G H D0 R E =>
  h σ G H { D0 with nx := tu D0 } R ⟨fun ρ' σ' G' H' w R' e => w σ' G' H' D0 R' (E.mono e), E.rt, E.bk, E.ct⟩
theorem ws_asg {i : Nat} (h : WE C te ρ fun x => match x with | .d d => D.nx (ρ.set i (some (.im d))) | .o v => D.nx (ρ.set i (some (.op v))) | .w _ => False) : WS C (tAsg te (gName i)) ρ D := fun σ G H D0 R E =>
  h σ G H _ R fun x v G' H' q n dv => by
    cases x with
    | d d => exact E.nx _ _ G' H' q (n.rel.setIm dv) n.eg
    | o u =>
      have e : v = u := dv
      subst e
      exact E.nx _ _ G' H' q n.rel.setOp n.eg
    | w j => exact q.elim
theorem ws_asgL {i : Nat} (h : WEL C te ρ fun ds => D.nx (ρ.set i (some (.ow ds)))) : WS C (tAsg te (gName i)) ρ D := fun σ G H D0 R E =>
  h σ G H _ R fun ds vs p G' H' q n hp hG hH da => by
    refine E.nx _ _ G' H' q (n.rel.setOw ⟨hG, R.fin.n0 hp, R.fin.nS hp, hH⟩ da fun j es _ hj hs => ?_) n.eg
    obtain ⟨a, us, h1, ⟨_, _, _, h5⟩, _⟩ := R.ow j es hj
    rw [hs] at h1
    cases h1
    rw [hp] at h5
    cases h5
theorem ws_ret (h : WE C te ρ fun x => match x with | .d d => D.rt (.d d) | .o v => D.rt (.o v) | .w i => ∃ ds, ρ[i]? = some (some (.ow ds)) ∧ D.rt (.d (.list ds))) : WS C (tRet te) ρ D := fun σ G H D0 R E =>
  h σ G H _ R fun x v G' H' q n dv => by
    cases x with
    | d d => exact E.rt _ v G' H' q n.rel.fin dv
    | o u => exact E.rt _ v G' H' q n.rel.fin dv
    | w i =>
      obtain ⟨ds, hi, q⟩ := q
      obtain ⟨a, vs, h1, ⟨h2, h3, h4, h5⟩, h6⟩ := n.rel.ow i ds hi
      have e : σ[i]? = some (some v) := dv
      rw [h1] at e
      cases e
      exact E.rt _ _ (upd G' a (.lst vs)) H' q (n.rel.fin.freeze h3 h4 h5 h2) (.lst (SqL.of upd_same) (dpAll_mono (Ex.new h2) h6))
theorem ws_retN (h : D.rt (.d .none)) : WS C tRetN ρ D := fun σ G H D0 R E => E.rt _ .non G H h R.fin .non
theorem ws_drop (h : WE C te ρ fun _ => D.nx ρ) : WS C (tDrop te) ρ D := fun σ G H D0 R E => h σ G H _ R fun x v G' H' q n _ => E.nx ρ σ G' H' q n.rel n.eg
theorem ws_if (h : WT C tc ρ fun b => (b = true → WS C ts ρ D) ∧ (b = false → WS C tu ρ D)) : WS C (tIfS tc ts tu) ρ D := fun σ G H D0 R E =>
  h σ G H _ R fun b G' H' q n => by
    cases b with
    | true => exact q.1 rfl σ G' H' D0 n.rel (E.mono n.eg)
    | false => exact q.2 rfl σ G' H' D0 n.rel (E.mono n.eg)
theorem ws_while (I : Nat → DEnv → Prop) (h0 : ∃ m, I m ρ) (hs : ∀ m ρ', I m ρ' → WT C tc ρ' fun b => (b = true → WS C ts ρ' { D with nx := fun ρ2 => ∃ m', m' < m ∧ I m' ρ2, ct := fun ρ2 => ∃ m', m' < m ∧ I m' ρ2, bk := D.nx }) ∧ (b = false → D.nx ρ')) :
    WS C (tWhile tc ts) ρ D := fun σ G H D0 R E => by
  obtain ⟨m0, i0⟩ := h0
  refine ⟨fun m σ H => ∃ ρ' G', I m ρ' ∧ Rel C ρ' σ G' H ∧ Ex G G', ⟨m0, ρ, G, i0, R, .refl _⟩, ?_⟩
  rintro m σ1 H1 ⟨ρ1, G1, i1, R1, e1⟩
  refine hs m ρ1 i1 σ1 G1 H1 _ R1 fun b G2 H2 q n => ?_
  cases b with
  | true =>
    refine ⟨fun σ' H' => ∃ m', m' < m ∧ ∃ ρ' G', I m' ρ' ∧ Rel C ρ' σ' G' H' ∧ Ex G G', fun σ' H' ⟨m', l, z⟩ => ⟨m', l, z⟩, ?_⟩
    refine q.1 rfl σ1 G2 H2 _ n.rel ⟨?_, E.rt, ?_, ?_⟩
    · rintro ρ3 σ3 G3 H3 ⟨m', l, i3⟩ R3 e3
      exact ⟨m', l, ρ3, G3, i3, R3, (e1.trans n.eg).trans e3⟩
    · intro ρ3 σ3 G3 H3 z R3 e3
      exact E.nx ρ3 σ3 G3 H3 z R3 ((e1.trans n.eg).trans e3)
    · rintro ρ3 σ3 G3 H3 ⟨m', l, i3⟩ R3 e3
      exact ⟨m', l, ρ3, G3, i3, R3, (e1.trans n.eg).trans e3⟩
  | false => exact E.nx ρ1 σ1 G2 H2 (q.2 rfl) n.rel (e1.trans n.eg)
end

/-! ### targets, walks, for -/
def WG (C : Cn) (g : TG) (x : DV) (ρ : DEnv) (N : DEnv → Prop) : Prop := ∀ (v : V) (σ : L2.St) (G H : Hp) (N0 : L2.St → Hp → Prop), Rel C ρ σ G H → Dv C.K σ G v x → (∀ ρ' σ', N ρ' → Rel C ρ' σ' G H → N0 σ' H) → g v σ H N0
def WGs (C : Cn) (g : TGs) (xs : List PyData) (ρ : DEnv) (N : DEnv → Prop) : Prop := ∀ (vs : List V) (σ : L2.St) (G H : Hp) (N0 : L2.St → Hp → Prop), Rel C ρ σ G H → DpAll C.K G vs xs → (∀ ρ' σ', N ρ' → Rel C ρ' σ' G H → N0 σ' H) → g vs σ H N0
section
variable {C : Cn} {ρ : DEnv}
theorem wg_name {i : Nat} {d : PyData} {N : DEnv → Prop} (h : N (ρ.set i (some (.im d)))) : WG C (gName i) (.d d) ρ N := fun v σ G H N0 R dv k => k _ _ h (R.setIm dv)
theorem wgs_nil {N : DEnv → Prop} (h : N ρ) : WGs C gNil [] ρ N := fun vs σ G H N0 R da k => by
  cases da
  exact ⟨rfl, k ρ σ h R⟩
theorem wgs_cons {g : TG} {gs : TGs} {d : PyData} {ds : List PyData} {N : DEnv → Prop} (h : WG C g (.d d) ρ fun ρ' => WGs C gs ds ρ' N) : WGs C (gCons g gs) (d :: ds) ρ N := fun vs σ G H N0 R da k => by
  cases da with
  | cons a b => exact ⟨_, _, rfl, h _ σ G H _ R a fun ρ' σ' w R' => w _ σ' G H N0 R' b k⟩
theorem wg_tup {n : Nat} {gs : TGs} {ds : List PyData} {N : DEnv → Prop} (hn : ds.length = n) (h : WGs C gs ds ρ N) : WG C (gTup C.K n gs) (.d (.tuple ds)) ρ N := fun v σ G H N0 R dv k => by
  have dv' : Dp C.K G v (.tuple ds) := dv
  cases dv' with
  | tup s a => exact ⟨_, _, rfl, sqT_mono R.fin.gh s, (dpAll_length a).trans hn, h _ σ G H N0 R a k⟩
theorem ws_asgG {te : TE} {g : TG} {D : DE} (h : WE C te ρ fun x => WG C g x ρ D.nx) : WS C (tAsg te g) ρ D := fun σ G H D0 R E =>
  h σ G H _ R fun x v G' H' q n dv => q v σ G' H' D0.nx n.rel dv fun ρ' σ' z R' => E.nx ρ' σ' G' H' z R' n.eg
/-- what a walk gives, item by item -/
structure Yields (C : Cn) (J : It) (G1 : Hp) (ds : List PyData) : Prop where
  go : ∀ i G H, i < ds.length → Fin C G H → Ex G1 G → J.go i H
  stop : ∀ i G H, ds.length ≤ i → Fin C G H → Ex G1 G → J.stop i H
  yld : ∀ i G H x H' d, ds[i]? = some d → Fin C G H → Ex G1 G → J.yld i H x H' → ∃ G', Fin C G' H' ∧ Ex G G' ∧ ExS C.S H H' ∧ (∀ b, G' b ≠ none → G b = none → H b = none) ∧ Dp C.K G' x d
def WI (C : Cn) (wi : TI) (ρ : DEnv) (Q : List PyData → Prop) : Prop := ∀ (σ : L2.St) (G H : Hp) (R0 : It → Hp → Prop), Rel C ρ σ G H → (∀ ds G' H' J, Q ds → Nxt C ρ σ G H G' H' → Yields C J G' ds → R0 J H') → wi σ H R0
theorem wi_list {te : TE} {Q : List PyData → Prop} (h : WE C te ρ fun x => ∃ ds, x = .d (.list ds) ∧ Q ds) : WI C (iList C.K te) ρ Q := fun σ G H R0 R k => h σ G H _ R fun x v G' H' ⟨ds, e, q⟩ n dv => by
  subst e
  have dv' : Dp C.K G' v (.list ds) := dv
  cases dv' with
  | @lst a xs _ s da =>
    refine ⟨a, rfl, ⟨xs, sqL_mono n.rel.fin.gh s⟩, k ds G' H' _ q n ⟨fun i G2 H2 hi F e => ?_, fun i G2 H2 hi F e => ?_, fun i G2 H2 x H3 d hd F e y => ?_⟩⟩
    · have hl : i < xs.length := by rw [dpAll_length da]; exact hi
      exact ⟨xs, xs[i], sqL_mono (e.trans F.gh) s, by simp [hl]⟩
    · exact ⟨xs, sqL_mono (e.trans F.gh) s, by rw [dpAll_length da]; exact hi⟩
    · obtain ⟨rfl, y⟩ := y
      obtain ⟨v, h1, h2⟩ := dpAll_get da hd
      have z := y xs (sqL_mono (e.trans F.gh) s)
      rw [h1] at z
      cases z
      exact ⟨G2, F, .refl _, .refl _ _, fun _ h1 h2 => absurd h2 h1, dp_mono e h2⟩
theorem wi_tup {te : TE} {Q : List PyData → Prop} (h : WE C te ρ fun x => ∃ ds, x = .d (.tuple ds) ∧ Q ds) : WI C (iTup C.K te) ρ Q := fun σ G H R0 R k => h σ G H _ R fun x v G' H' ⟨ds, e, q⟩ n dv => by
  subst e
  have dv' : Dp C.K G' v (.tuple ds) := dv
  cases dv' with
  | @tup a xs _ s da =>
    refine ⟨a, rfl, ⟨xs, sqT_mono n.rel.fin.gh s⟩, k ds G' H' _ q n ⟨fun i G2 H2 hi F e => ?_, fun i G2 H2 hi F e => ?_, fun i G2 H2 x H3 d hd F e y => ?_⟩⟩
    · have hl : i < xs.length := by rw [dpAll_length da]; exact hi
      exact ⟨xs, xs[i], sqT_mono (e.trans F.gh) s, by simp [hl]⟩
    · exact ⟨xs, sqT_mono (e.trans F.gh) s, by rw [dpAll_length da]; exact hi⟩
    · obtain ⟨rfl, y⟩ := y
      obtain ⟨v, h1, h2⟩ := dpAll_get da hd
      have z := y xs (sqT_mono (e.trans F.gh) s)
      rw [h1] at z
      cases z
      exact ⟨G2, F, .refl _, .refl _ _, fun _ h1 h2 => absurd h2 h1, dp_mono e h2⟩
/-- the ints from lo on -/
def intsFrom (lo : Int) (n : Nat) : List PyData := (List.range n).map fun (i : Nat) => PyData.int (lo + (i : Int))
theorem intsFrom_len (lo : Int) (n : Nat) : (intsFrom lo n).length = n := by simp [intsFrom]
theorem intsFrom_get {lo : Int} {n i : Nat} {d : PyData} (h : (intsFrom lo n)[i]? = some d) : i < n ∧ d = .int (lo + (i : Int)) := by
  unfold intsFrom at h
  rw [List.getElem?_map] at h
  obtain ⟨a, h1, h2⟩ := Option.map_eq_some_iff.mp h
  obtain ⟨h3, h4⟩ := List.getElem?_eq_some_iff.mp h1
  rw [List.getElem_range] at h4
  subst h4
  rw [List.length_range] at h3
  exact ⟨h3, h2.symm⟩
theorem yields_range {G1 : Hp} (lo : Int) (n : Nat) : Yields C (Itr lo n) G1 (intsFrom lo n) :=
  ⟨fun i G2 H2 hi F e => by rw [intsFrom_len] at hi; exact hi, fun i G2 H2 hi F e => by rw [intsFrom_len] at hi; exact hi, fun i G2 H2 x H3 d hd F e y => by
    obtain ⟨rfl, rfl⟩ := y
    obtain ⟨_, rfl⟩ := intsFrom_get hd
    exact ⟨G2, F, .refl _, .refl _ _, fun _ h1 h2 => absurd h2 h1, .int _⟩⟩
theorem wi_range1 {ta : TA} {Q : List PyData → Prop} (h : WA C ta ρ fun xs => ∃ j : Int, xs = [.d (.int j)] ∧ -(2 ^ 62) ≤ j ∧ j < 2 ^ 62 ∧ Q (intsFrom 0 j.toNat)) : WI C (iRng1 ta) ρ Q := fun σ G H R0 R k =>
  h σ G H _ R fun xs vs G' H' ⟨j, e, l1, l2, q⟩ n da => by
    subst e
    cases da with
    | cons a b =>
      cases b
      cases a
      exact ⟨j, rfl, l1, l2, k _ G' H' _ q n (yields_range 0 _)⟩
theorem wi_range2 {ta : TA} {Q : List PyData → Prop} (h : WA C ta ρ fun xs => ∃ i j : Int, xs = [.d (.int i), .d (.int j)] ∧ (-(2 ^ 62) ≤ i ∧ i < 2 ^ 62 ∧ -(2 ^ 62) ≤ j ∧ j < 2 ^ 62) ∧ Q (intsFrom i (j - i).toNat)) : WI C (iRng2 ta) ρ Q := fun σ G H R0 R k =>
  h σ G H _ R fun xs vs G' H' ⟨i, j, e, l, q⟩ n da => by
    subst e
    cases da with
    | cons a b =>
      cases b with
      | cons a' b' =>
        cases b'
        cases a
        cases a'
        exact ⟨i, j, rfl, l, k _ G' H' _ q n (yields_range i _)⟩
theorem ws_for {wi : TI} {g : TG} {tb : TS} {D : DE} (h : WI C wi ρ fun ds => ∃ I : Nat → DEnv → Prop, I 0 ρ ∧ (∀ i d ρ', ds[i]? = some d → I i ρ' → WG C g (.d d) ρ' fun ρ2 => WS C tb ρ2 { D with nx := I (i + 1), ct := I (i + 1), bk := D.nx }) ∧ (∀ ρ', I ds.length ρ' → D.nx ρ')) :
    WS C (tFor wi g tb) ρ D := fun σ G H D0 R E => h σ G H _ R fun ds G1 H1 J ⟨I, i0, hs, hd⟩ n Y => by
  refine ⟨fun i m σ H => m = ds.length - i ∧ i ≤ ds.length ∧ ∃ ρ' G', I i ρ' ∧ Rel C ρ' σ G' H ∧ Ex G1 G', ⟨ds.length, by simp, Nat.zero_le _, ρ, G1, i0, n.rel, .refl _⟩, ?_⟩
  rintro i m σ1 H2 ⟨rfl, hi, ρ1, G2, i1, R1, e1⟩
  by_cases hlt : i < ds.length
  · refine .inr ⟨Y.go i G2 H2 hlt R1.fin e1, fun σ' H' => ∃ ρ' G', I (i + 1) ρ' ∧ Rel C ρ' σ' G' H' ∧ Ex G1 G', fun σ' H' z => ⟨ds.length - (i + 1), by omega, rfl, hlt, z⟩, fun x H3 y => ?_⟩
    have hd' : ds[i]? = some ds[i] := by simp [hlt]
    obtain ⟨G3, F3, e3, s3, nw, dx⟩ := Y.yld i G2 H2 x H3 _ hd' R1.fin e1 y
    have R3 : Rel C ρ1 σ1 G3 H3 := R1.to F3 e3 s3 nw
    refine hs i _ ρ1 hd' i1 x σ1 G3 H3 _ R3 dx fun ρ2 σ2 w R4 => w σ2 G3 H3 _ R4 ⟨?_, E.rt, ?_, ?_⟩
    · intro ρ5 σ5 G5 H5 z R5 e5
      exact ⟨ρ5, G5, z, R5, (e1.trans e3).trans e5⟩
    · intro ρ5 σ5 G5 H5 z R5 e5
      exact E.nx ρ5 σ5 G5 H5 z R5 (((n.eg.trans e1).trans e3).trans e5)
    · intro ρ5 σ5 G5 H5 z R5 e5
      exact ⟨ρ5, G5, z, R5, (e1.trans e3).trans e5⟩
  · have he : i = ds.length := by omega
    subst he
    exact .inl ⟨Y.stop _ G2 H2 (Nat.le_refl _) R1.fin e1, E.nx ρ1 σ1 G2 H2 (hd ρ1 i1) R1 (n.eg.trans e1)⟩
/-! ### comprehensions -/
def wipeD (ρ : DEnv) : List Nat → DEnv
  | [] => ρ
  | v :: vs => (wipeD ρ vs).set v none
theorem Rel.wipe {σ : L2.St} {G H : Hp} (R : Rel C ρ σ G H) : ∀ vs : List Nat, Rel C (wipeD ρ vs) (wipe σ vs) G H
  | [] => R
  | v :: vs => (R.wipe vs).setNo
/-- a target that stores into these slots alone -/
structure OnlyG (g : TG) (vs : List Nat) : Prop where
  mono : ∀ v σ H (N N' : L2.St → Hp → Prop), (∀ σ' H', N σ' H' → N' σ' H') → g v σ H N → g v σ H N'
  only : ∀ v σ0 σ H N, wipe σ vs = wipe σ0 vs → g v σ H N → g v σ H fun σ' H' => wipe σ' vs = wipe σ0 vs ∧ N σ' H'
structure OnlyGs (g : TGs) (vs : List Nat) : Prop where
  mono : ∀ us σ H (N N' : L2.St → Hp → Prop), (∀ σ' H', N σ' H' → N' σ' H') → g us σ H N → g us σ H N'
  only : ∀ us σ0 σ H N, wipe σ vs = wipe σ0 vs → g us σ H N → g us σ H fun σ' H' => wipe σ' vs = wipe σ0 vs ∧ N σ' H'
theorem wipe_get {σ : L2.St} : ∀ {vs : List Nat} (j : Nat), (wipe σ vs)[j]? = if j ∈ vs then (σ[j]?).map (fun _ => none) else σ[j]?
  | [], j => by simp [L2.wipe]
  | v :: vs, j => by
    show ((wipe σ vs).set v none)[j]? = _
    by_cases e : v = j
    · subst e
      rw [List.getElem?_set_self', wipe_get]
      by_cases m : v ∈ vs
      · simp [m]
        cases σ[v]? <;> rfl
      · simp [m]
        cases σ[v]? <;> rfl
    · rw [List.getElem?_set_ne e, wipe_get]
      have e' : ¬ j = v := fun q => e q.symm
      simp [e']
theorem wipe_set {σ : L2.St} {vs : List Nat} {i : Nat} {x : Option V} (h : i ∈ vs) : wipe (σ.set i x) vs = wipe σ vs := by
  apply List.ext_getElem?
  intro j
  rw [wipe_get, wipe_get]
  by_cases m : j ∈ vs
  · rw [if_pos m, if_pos m]
    by_cases e : i = j
    · subst e
      rw [List.getElem?_set_self']
      cases σ[i]? <;> rfl
    · rw [List.getElem?_set_ne e]
  · have e : i ≠ j := fun q => m (q ▸ h)
    rw [if_neg m, if_neg m, List.getElem?_set_ne e]
theorem wipe_wipe {σ : L2.St} {vs : List Nat} : wipe (wipe σ vs) vs = wipe σ vs := by
  apply List.ext_getElem?
  intro j
  rw [wipe_get, wipe_get]
  by_cases m : j ∈ vs
  · simp [m]
    cases σ[j]? <;> rfl
  · simp [m]
theorem only_name {vs : List Nat} {i : Nat} (h : i ∈ vs) : OnlyG (gName i) vs := ⟨fun _ _ _ _ _ m k => m _ _ k, fun _ _ _ _ _ e k => ⟨(wipe_set h).trans e, k⟩⟩
theorem only_nil {vs : List Nat} : OnlyGs gNil vs := ⟨fun _ _ _ _ _ m k => ⟨k.1, m _ _ k.2⟩, fun _ _ _ _ _ e k => ⟨k.1, e, k.2⟩⟩
theorem only_cons {vs : List Nat} {g : TG} {gs : TGs} (h : OnlyG g vs) (k : OnlyGs gs vs) : OnlyGs (gCons g gs) vs :=
  ⟨fun us σ H N N' m ⟨v, r, e, q⟩ => ⟨v, r, e, h.mono v σ H _ _ (fun σ' H' q' => k.mono r σ' H' _ _ m q') q⟩,
    fun us σ0 σ H N w ⟨v, r, e, q⟩ => ⟨v, r, e, h.mono v σ H _ _ (fun σ' H' q' => k.only r σ0 σ' H' N q'.1 q'.2) (h.only v σ0 σ H _ w q)⟩⟩
theorem only_tup {vs : List Nat} {K : PySem.W.Frag} {n : Nat} {gs : TGs} (h : OnlyGs gs vs) : OnlyG (gTup K n gs) vs :=
  ⟨fun v σ H N N' m ⟨a, xs, e, s, l, q⟩ => ⟨a, xs, e, s, l, h.mono xs σ H _ _ m q⟩, fun v σ0 σ H N w ⟨a, xs, e, s, l, q⟩ => ⟨a, xs, e, s, l, h.only xs σ0 σ H N w q⟩⟩
theorem wt_yes {Q : Bool → Prop} (h : Q true) : WT C tYes ρ Q := fun σ G H Q0 R k => k true G H h (.refl R)
theorem wel_lc {wi : TI} {g : TG} {tt : TT} {te : TE} {vs : List Nat} {Q : List PyData → Prop} (og : OnlyG g vs)
    (h : WI C wi ρ fun ds => ∃ I : Nat → List PyData → Prop, I 0 [] ∧ (∀ i d acc, ds[i]? = some d → I i acc → WG C g (.d d) (wipeD ρ vs) fun ρ2 => WT C tt ρ2 fun b =>
      (b = true → WE C te ρ2 fun y => ∃ e, y = .d e ∧ acc.length < 100000 ∧ I (i + 1) (acc ++ [e])) ∧ (b = false → I (i + 1) acc)) ∧ (∀ acc, I ds.length acc → Q acc)) : WEL C (tLc wi g tt te vs) ρ Q := fun σ G H Q0 R k =>
  h σ G H _ R fun ds G1 H1 J ⟨I, i0, hs, hd⟩ n Y p hp => by
    have n2 := n.rel.newOw hp (.lst [])
    have hpH : H p = none := Fin.backS R.fin.j n.rel.fin n.eh hp
    refine ⟨fun i m H2 => m = ds.length - i ∧ i ≤ ds.length ∧ ∃ acc us G2, I i acc ∧ Nxt C ρ σ G H G2 H2 ∧ Ex G1 G2 ∧ G2 p = none ∧ H2 p = some (.lst us) ∧ DpAll C.K G2 us acc,
      ⟨ds.length, by simp, Nat.zero_le _, [], [], G1, i0, n.trans n2 R.fin.j, .refl _, n.rel.fin.nG hp, upd_same, .nil⟩, ?_⟩
    rintro i m H2 ⟨rfl, hi, acc, us, G2, i2, N2, e2, gp, hp2, da⟩
    by_cases hlt : i < ds.length
    · refine .inr ⟨Y.go i G2 H2 hlt N2.rel.fin e2, fun H' => ∃ acc us G2, I (i + 1) acc ∧ Nxt C ρ σ G H G2 H' ∧ Ex G1 G2 ∧ G2 p = none ∧ H' p = some (.lst us) ∧ DpAll C.K G2 us acc,
        fun H' z => ⟨ds.length - (i + 1), by omega, rfl, hlt, z⟩, fun x H3 y => ?_⟩
      have hd' : ds[i]? = some ds[i] := by simp [hlt]
      obtain ⟨G3, F3, e3, s3, nw, dx⟩ := Y.yld i G2 H2 x H3 _ hd' N2.rel.fin e2 y
      have R3 : Rel C ρ σ G3 H3 := N2.rel.to F3 e3 s3 nw
      have N3 : Nxt C ρ σ G2 H2 G3 H3 := ⟨R3, e3, s3, nw⟩
      have pS : p ∉ C.S := R.fin.nS hpH
      have keep : ∀ {Ga Ha Gb Hb : Hp} {ρ' : DEnv} {σ' : L2.St}, Nxt C ρ' σ' Ga Ha Gb Hb → Ga p = none → Ha p = some (.lst us) → Gb p = none ∧ Hb p = some (.lst us) := fun {Ga Ha Gb Hb ρ' σ'} N g hh => by
        refine ⟨?_, N.eh p _ hh pS⟩
        cases z : Gb p with
        | none => rfl
        | some o =>
          have w := N.nw p (by rw [z]; exact fun q => by cases q) g
          rw [hh] at w
          cases w
      obtain ⟨g3, h3⟩ := keep N3 gp hp2
      have lift : ∀ {Gb Hb : Hp} {ρ' : DEnv} {σ' : L2.St}, Nxt C ρ' σ' G3 H3 Gb Hb → Nxt C ρ σ G H Gb Hb := fun {Gb Hb ρ' σ'} N =>
        (N2.trans N3 R.fin.j).trans ⟨R3.to N.rel.fin N.eg N.eh N.nw, N.eg, N.eh, N.nw⟩ R.fin.j
      refine og.only x σ (wipe σ vs) H3 _ wipe_wipe (hs i _ acc hd' i2 x (wipe σ vs) G3 H3 _ (R3.wipe vs) dx fun ρ2 σ2 w R4 => w σ2 G3 H3 _ R4 fun b G4 H4 q n4 => ?_)
      obtain ⟨g4, h4⟩ := keep n4 g3 h3
      have da4 := dpAll_mono ((e3.trans n4.eg)) da
      cases b with
      | true =>
        show te σ2 H4 _
        refine q.1 rfl σ2 G4 H4 _ n4.rel fun y v G5 H5 ⟨e, ey, la, i5⟩ n5 dy => ?_
        subst ey
        obtain ⟨g5, h5⟩ := keep n5 g4 h4
        have n45 := n4.trans n5 R3.fin.j
        have N5 := lift n45
        have own : OwnAt C G5 H5 p us := ⟨g5, R.fin.n0 hpH, pS, h5⟩
        refine ⟨us, h5, by rw [dpAll_length da, sizeLine_eq]; omega, acc ++ [e], us ++ [v], G5, i5, ?_, (e2.trans e3).trans n45.eg, g5, upd_same, dpAll_snoc (dpAll_mono n5.eg da4) dy⟩
        refine ⟨?_, N5.eg, fun b o hb ns => ?_, N5.nw⟩
        · have F5 := N5.rel.fin.setOw g5 (R.fin.n0 hpH) pS (.lst (us ++ [v]))
          refine ⟨F5, N5.rel.len, N5.rel.im, N5.rel.op, fun j es hj => ?_, fun j a cls d z x hj => ?_, N5.rel.sep⟩
          obtain ⟨a, ws, h1, _, _⟩ := R.ow j es hj
          obtain ⟨a', ws', h1', ⟨o1, o2, o3, o4⟩, o5⟩ := N5.rel.ow j es hj
          have ea : a = a' := by
            rw [h1] at h1'
            cases h1'
            rfl
          subst ea
          have na : a ≠ p := fun z => by
            obtain ⟨a2, ws2, h12, ⟨_, _, _, o42⟩, _⟩ := R.ow j es hj
            rw [h1] at h12
            cases h12
            rw [z, hpH] at o42
            cases o42
          exact ⟨a, ws', h1', ⟨o1, o2, o3, by rw [upd_ne na]; exact o4⟩, o5⟩
          obtain ⟨h1, Ca, bs, dd, w, h2, h3, h4, h5, h6, h7⟩ := N5.rel.ex j a cls d z x hj
          have ne : dd ≠ p := fun z => by
            rw [z, own.2.2.2] at h6
            cases h6
          exact ⟨h1, Ca, bs, dd, w, h2, h3, h4, h5, by rw [upd_ne ne]; exact h6, h7⟩
        · rw [upd_ne (ne_of_none hb hpH)]
          exact N5.eh b o hb ns
      | false => exact ⟨acc, us, G4, q.2 rfl, lift n4, (e2.trans e3).trans n4.eg, g4, h4, da4⟩
    · have he : i = ds.length := by omega
      subst he
      exact .inl ⟨Y.stop _ G2 H2 (Nat.le_refl _) N2.rel.fin e2, k acc us p G2 H2 (hd acc i2) N2 hpH gp hp2 da⟩
end
end DL

set_option Elab.async false
set_option linter.all false
set_option maxRecDepth 100000
set_option maxHeartbeats 1000000
/-! The layer of data: tests, operations, built-ins; the promise of a def, its calls, its body. -/
namespace DL
open PySem L2
section
variable {C : Cn} {ρ : DEnv} {te ta tb tc' : TE} {tt tu : TT} {Q : DV → Prop}
/-! ### tests -/
theorem wt_test {Q : Bool → Prop} (h : WE C te ρ fun x => ∃ b, x = .d (.bool b) ∧ Q b) : WT C (tTest te) ρ Q := fun σ G H Q0 R k => h σ G H _ R fun x v G' H' ⟨b, e, q⟩ n dv => by
  subst e
  cases dv
  exact ⟨b, rfl, k b G' H' q n⟩
theorem wt_B {Q : Bool → Prop} (h : WE C te ρ fun x => ∃ b, x = .d (.bool b) ∧ Q b) : WT C (tB te) ρ Q := fun σ G H Q0 R k => h σ G H _ R fun x v G' H' ⟨b, e, q⟩ n dv => by
  subst e
  cases dv
  exact ⟨b, rfl, k b G' H' q n⟩
theorem wt_not {Q : Bool → Prop} (h : WT C tt ρ fun b => Q (!b)) : WT C (tNot tt) ρ Q := fun σ G H Q0 R k => h σ G H _ R fun b G' H' q n => k (!b) G' H' q n
theorem wt_and {Q : Bool → Prop} (h : WT C tt ρ fun b => (b = true → WT C tu ρ Q) ∧ (b = false → Q false)) : WT C (tAnd tt tu) ρ Q := fun σ G H Q0 R k => h σ G H _ R fun b G' H' q n => by
  cases b with
  | true => exact q.1 rfl σ G' H' Q0 n.rel fun b G2 H2 q n2 => k b G2 H2 q (n.trans n2 R.fin.j)
  | false => exact k false G' H' (q.2 rfl) n
theorem wt_or {Q : Bool → Prop} (h : WT C tt ρ fun b => (b = true → Q true) ∧ (b = false → WT C tu ρ Q)) : WT C (tOr tt tu) ρ Q := fun σ G H Q0 R k => h σ G H _ R fun b G' H' q n => by
  cases b with
  | false => exact q.2 rfl σ G' H' Q0 n.rel fun b G2 H2 q n2 => k b G2 H2 q (n.trans n2 R.fin.j)
  | true => exact k true G' H' (q.1 rfl) n
theorem wt_mono {Q Q' : Bool → Prop} (h : WT C tt ρ Q) (k : ∀ b, Q b → Q' b) : WT C tt ρ Q' := fun σ G H Q0 R q => h σ G H Q0 R fun b G' H' hb => q b G' H' (k b hb)
theorem we_andV (h : WE C ta ρ fun x => ∃ b, x = .d (.bool b) ∧ (b = true → WE C tb ρ Q) ∧ (b = false → Q (.d (.bool false)))) : WE C (tAndV ta tb) ρ Q := fun σ G H Q0 R k => h σ G H _ R fun x v G' H' ⟨b, e, q⟩ n dv => by
  subst e
  cases dv
  refine ⟨b, rfl, ?_⟩
  cases b with
  | true => exact q.1 rfl σ G' H' Q0 n.rel fun y w G2 H2 q n2 d => k y w G2 H2 q (n.trans n2 R.fin.j) d
  | false => exact k _ _ G' H' (q.2 rfl) n (.bl false)
theorem we_orV (h : WE C ta ρ fun x => ∃ b, x = .d (.bool b) ∧ (b = true → Q (.d (.bool true))) ∧ (b = false → WE C tb ρ Q)) : WE C (tOrV ta tb) ρ Q := fun σ G H Q0 R k => h σ G H _ R fun x v G' H' ⟨b, e, q⟩ n dv => by
  subst e
  cases dv
  refine ⟨b, rfl, ?_⟩
  cases b with
  | false => exact q.2 rfl σ G' H' Q0 n.rel fun y w G2 H2 q n2 d => k y w G2 H2 q (n.trans n2 R.fin.j) d
  | true => exact k _ _ G' H' (q.1 rfl) n (.bl true)
theorem we_notV (h : WE C ta ρ fun x => ∃ b, x = .d (.bool b) ∧ Q (.d (.bool (!b)))) : WE C (tNotV ta) ρ Q := fun σ G H Q0 R k => h σ G H _ R fun x v G' H' ⟨b, e, q⟩ n dv => by
  subst e
  cases dv
  exact ⟨b, rfl, k _ _ G' H' q n (.bl _)⟩
theorem we_if (h : WT C tt ρ fun b => (b = true → WE C ta ρ Q) ∧ (b = false → WE C tb ρ Q)) : WE C (tIf tt ta tb) ρ Q := fun σ G H Q0 R k => h σ G H _ R fun b G' H' q n => by
  cases b with
  | true => exact q.1 rfl σ G' H' Q0 n.rel fun y w G2 H2 q n2 d => k y w G2 H2 q (n.trans n2 R.fin.j) d
  | false => exact q.2 rfl σ G' H' Q0 n.rel fun y w G2 H2 q n2 d => k y w G2 H2 q (n.trans n2 R.fin.j) d
theorem we_chain {r r' : R2} (h : WE C ta ρ fun x => WE C tb ρ fun y => RO C r x y ρ fun z => ∃ b, z = .d (.bool b) ∧ (b = true → WE C tc' ρ fun u => RO C r' y u ρ Q) ∧ (b = false → Q (.d (.bool false)))) : WE C (tChain r r' ta tb tc') ρ Q := fun σ G H Q0 R k =>
  h σ G H _ R fun x u G1 H1 h1 n1 d1 => h1 σ G1 H1 _ n1.rel fun y v G2 H2 h2 n2 d2 => h2 σ G2 H2 u v _ n2.rel (dv_mono n2.eg d1) d2 fun z w G3 H3 ⟨b, e, q⟩ n3 d3 => by
    subst e
    cases d3
    refine ⟨b, rfl, ?_⟩
    have N := (n1.trans n2 R.fin.j).trans n3 R.fin.j
    cases b with
    | true => exact q.1 rfl σ G3 H3 _ n3.rel fun a s G4 H4 h4 n4 d4 => h4 σ G4 H4 v s Q0 n4.rel (dv_mono (n3.eg.trans n4.eg) d2) d4 fun a s G5 H5 q5 n5 d5 => k a s G5 H5 q5 ((N.trans n4 R.fin.j).trans n5 R.fin.j) d5
    | false => exact k _ _ G3 H3 (q.2 rfl) N (.bl false)
/-- truth -/
def truD : PyData → Option Bool
  | .none => some false
  | .bool b => some b
  | .int i => some (i != 0)
  | .list xs => some (!xs.isEmpty)
  | .tuple xs => some (!xs.isEmpty)
  | _ => none
theorem wt_tru {Q : Bool → Prop} (h : WE C te ρ fun x => ∃ d b, x = .d d ∧ truD d = some b ∧ Q b) : WT C (fun σ H Q => te σ H fun x H' => ∃ k, TruV C.K x H' k ∧ Q k H') ρ Q := fun σ G H Q0 R k => h σ G H _ R fun x v G' H' ⟨d, b, e, t, q⟩ n dv => by
  subst e
  have dv' : Dp C.K G' v d := dv
  refine ⟨b, ?_, k b G' H' q n⟩
  cases dv' with
  | non => cases t; rfl
  | bl b => cases t; rfl
  | int i => cases t; rfl
  | str x => cases t
  | lst s da =>
    cases t
    refine .inl ⟨_, sqL_mono n.rel.fin.gh s, ?_⟩
    cases da <;> rfl
  | tup s da =>
    cases t
    refine .inr (.inl ⟨_, sqT_mono n.rel.fin.gh s, ?_⟩)
    cases da <;> rfl

/-! ### operations -/
section
variable {x y : DV}
theorem ro_or1 {r r' : R2} (h : RO C r x y ρ Q) : RO C (fun x y H Q => r x y H Q ∨ r' x y H Q) x y ρ Q := fun σ G H u v Q0 R d1 d2 k => .inl (h σ G H u v Q0 R d1 d2 k)
theorem ro_or2 {r r' : R2} (h : RO C r' x y ρ Q) : RO C (fun x y H Q => r x y H Q ∨ r' x y H Q) x y ρ Q := fun σ G H u v Q0 R d1 d2 k => .inr (h σ G H u v Q0 R d1 d2 k)
theorem ro_I {Cc : Int → Int → Prop} {f : Int → Int → Int} {i j : Int} (c : Cc i j) (q : Q (.d (.int (f i j)))) : RO C (rI Cc fun i j => .int (f i j)) (.d (.int i)) (.d (.int j)) ρ Q := fun σ G H u v Q0 R d1 d2 k => by
  cases d1
  cases d2
  exact ⟨i, j, rfl, rfl, c, k _ _ G H q (.refl R) (.int _)⟩
theorem ro_I0 {f : Int → Int → Int} {i j : Int} (q : Q (.d (.int (f i j)))) : RO C (rI0 fun i j => .int (f i j)) (.d (.int i)) (.d (.int j)) ρ Q := fun σ G H u v Q0 R d1 d2 k => by
  cases d1
  cases d2
  exact ⟨i, j, rfl, rfl, k _ _ G H q (.refl R) (.int _)⟩
theorem ro_B0 {f : Int → Int → Bool} {i j : Int} (q : Q (.d (.bool (f i j)))) : RO C (rI0 fun i j => .bl (f i j)) (.d (.int i)) (.d (.int j)) ρ Q := fun σ G H u v Q0 R d1 d2 k => by
  cases d1
  cases d2
  exact ⟨i, j, rfl, rfl, k _ _ G H q (.refl R) (.bl _)⟩
theorem ro_eqI {i j : Int} (q : Q (.d (.bool (decide (i = j))))) : RO C rEq (.d (.int i)) (.d (.int j)) ρ Q := fun σ G H u v Q0 R d1 d2 k => by
  cases d1
  cases d2
  refine ⟨rfl, ?_⟩
  have e : decide (V.int i = V.int j) = decide (i = j) := by simp
  rw [e]
  exact k _ _ G H q (.refl R) (.bl _)
theorem ro_neI {i j : Int} (q : Q (.d (.bool (!decide (i = j))))) : RO C rNe (.d (.int i)) (.d (.int j)) ρ Q := fun σ G H u v Q0 R d1 d2 k => by
  cases d1
  cases d2
  refine ⟨rfl, ?_⟩
  have e : decide (V.int i = V.int j) = decide (i = j) := by simp
  rw [e]
  exact k _ _ G H q (.refl R) (.bl _)
theorem ro_eqD {d e : PyData} (s1 : SeqAt.shaped d = true) (s2 : SeqAt.shaped e = true) (q : Q (.d (.bool (PyData.eqv d e)))) : RO C (rEqD C.K) (.d d) (.d e) ρ Q := fun σ G H u v Q0 R d1 d2 k =>
  ⟨d, e, dp_mono R.fin.gh d1, dp_mono R.fin.gh d2, s1, s2, k _ _ G H q (.refl R) (.bl _)⟩
theorem ro_neD {d e : PyData} (s1 : SeqAt.shaped d = true) (s2 : SeqAt.shaped e = true) (q : Q (.d (.bool (!PyData.eqv d e)))) : RO C (rNeD C.K) (.d d) (.d e) ρ Q := fun σ G H u v Q0 R d1 d2 k =>
  ⟨d, e, dp_mono R.fin.gh d1, dp_mono R.fin.gh d2, s1, s2, k _ _ G H q (.refl R) (.bl _)⟩
/-- an item -/
theorem atI_dp {K : PySem.W.Frag} {G : Hp} {vs : List V} {ds : List PyData} {i : Int} {d : PyData} (da : DpAll K G vs ds) (h : atI ds i = some d) : ∃ v, atI vs i = some v ∧ Dp K G v d := by
  unfold atI at h ⊢
  rw [dpAll_length da]
  obtain ⟨j, h1, h2⟩ := Option.bind_eq_some_iff.mp h
  obtain ⟨v, h3, h4⟩ := dpAll_get da h2
  exact ⟨v, by rw [h1]; exact h3, h4⟩
theorem ro_ixL {ds : List PyData} {i : Int} {d : PyData} (h : atI ds i = some d) (q : Q (.d d)) : RO C (rIx C.K) (.d (.list ds)) (.d (.int i)) ρ Q := fun σ G H u v Q0 R d1 d2 k => by
  cases d2
  have d1' : Dp C.K G u (.list ds) := d1
  cases d1' with
  | lst s da =>
    obtain ⟨w, h1, h2⟩ := atI_dp da h
    exact .inl ⟨_, _, i, w, rfl, rfl, sqL_mono R.fin.gh s, h1, k _ _ G H q (.refl R) h2⟩
theorem ro_ixT {ds : List PyData} {i : Int} {d : PyData} (h : atI ds i = some d) (q : Q (.d d)) : RO C (rIx C.K) (.d (.tuple ds)) (.d (.int i)) ρ Q := fun σ G H u v Q0 R d1 d2 k => by
  cases d2
  have d1' : Dp C.K G u (.tuple ds) := d1
  cases d1' with
  | tup s da =>
    obtain ⟨w, h1, h2⟩ := atI_dp da h
    exact .inr (.inl ⟨_, _, i, w, rfl, rfl, sqT_mono R.fin.gh s, h1, k _ _ G H q (.refl R) h2⟩)
theorem ro_ixW {ds : List PyData} {n : Nat} {i : Int} {d : PyData} (hn : ρ[n]? = some (some (.ow ds))) (h : atI ds i = some d) (q : Q (.d d)) : RO C (rIx C.K) (.w n) (.d (.int i)) ρ Q := fun σ G H u v Q0 R d1 d2 k => by
  cases d2
  obtain ⟨a, vs, h1, ⟨_, _, _, h5⟩, da⟩ := R.ow n ds hn
  have e : σ[n]? = some (some u) := d1
  rw [h1] at e
  cases e
  obtain ⟨w, h3, h4⟩ := atI_dp da h
  exact .inl ⟨_, _, i, w, rfl, rfl, SqL.of h5, h3, k _ _ G H q (.refl R) h4⟩
end
/-! ### built-ins -/
abbrev rLen (K : PySem.W.Frag) : List V → Hp → VK → Prop := fun xs H Q => ∃ p ys, xs = [.ref p] ∧ (SqL K H p ys ∨ SqT K H p ys) ∧ Q (.int ys.length) H
theorem rc_lenL {ds : List PyData} (q : Q (.d (.int ds.length))) : RC C (rLen C.K) [.d (.list ds)] ρ Q := fun σ G H vs Q0 R da k => by
  cases da with
  | cons a b =>
    cases b
    have a' : Dp C.K G _ (.list ds) := a
    cases a' with
    | lst s dd =>
      refine ⟨_, _, rfl, .inl (sqL_mono R.fin.gh s), ?_⟩
      rw [dpAll_length dd]
      exact k _ _ G H q (.refl R) (.int _)
theorem rc_lenT {ds : List PyData} (q : Q (.d (.int ds.length))) : RC C (rLen C.K) [.d (.tuple ds)] ρ Q := fun σ G H vs Q0 R da k => by
  cases da with
  | cons a b =>
    cases b
    have a' : Dp C.K G _ (.tuple ds) := a
    cases a' with
    | tup s dd =>
      refine ⟨_, _, rfl, .inr (sqT_mono R.fin.gh s), ?_⟩
      rw [dpAll_length dd]
      exact k _ _ G H q (.refl R) (.int _)
theorem rc_lenW {ds : List PyData} {n : Nat} (hn : ρ[n]? = some (some (.ow ds))) (q : Q (.d (.int ds.length))) : RC C (rLen C.K) [.w n] ρ Q := fun σ G H vs Q0 R da k => by
  cases da with
  | @cons u _ _ _ a b =>
    cases b
    obtain ⟨a', vs, h1, ⟨_, _, _, h5⟩, dd⟩ := R.ow n ds hn
    have e : σ[n]? = some (some u) := a
    rw [h1] at e
    cases e
    refine ⟨_, _, rfl, .inl (SqL.of h5), ?_⟩
    rw [dpAll_length dd]
    exact k _ _ G H q (.refl R) (.int _)
abbrev rInt1 : List V → Hp → VK → Prop := fun xs H Q => (∃ i, xs = [.int i] ∧ Q (.int i) H) ∨ ∃ k, xs = [.bl k] ∧ Q (.int (if k then 1 else 0)) H
theorem rc_int {i : Int} (q : Q (.d (.int i))) : RC C rInt1 [.d (.int i)] ρ Q := fun σ G H vs Q0 R da k => by
  cases da with
  | cons a b =>
    cases b
    cases a
    exact .inl ⟨i, rfl, k _ _ G H q (.refl R) (.int _)⟩
theorem rc_intB {b : Bool} (q : Q (.d (.int (if b then 1 else 0)))) : RC C rInt1 [.d (.bool b)] ρ Q := fun σ G H vs Q0 R da k => by
  cases da with
  | cons a c =>
    cases c
    cases a
    exact .inr ⟨b, rfl, k _ _ G H q (.refl R) (.int _)⟩
abbrev rAbs : List V → Hp → VK → Prop := fun xs H Q => ∃ i, xs = [.int i] ∧ Q (.int (if i < 0 then -i else i)) H
theorem rc_abs {i : Int} (q : Q (.d (.int (if i < 0 then -i else i)))) : RC C rAbs [.d (.int i)] ρ Q := fun σ G H vs Q0 R da k => by
  cases da with
  | cons a b =>
    cases b
    cases a
    exact ⟨i, rfl, k _ _ G H q (.refl R) (.int _)⟩
end

/-! ### the promise of a def -/
structure GrS (S : List Addr) (G H G' H' : Hp) : Prop where
  eg : Ex G G'
  gh : Ex G' H'
  eh : ExS S H H'
  nw : ∀ b, G' b ≠ none → G b = none → H b = none
  gs : ∀ b, b ∈ S → G' b = none
/-- T: of the arguments, what is wanted of the result, what is wanted of an error (its name, its place) -/
abbrev DSpec := List DV → (DV → Prop) → (Str → PyData → Prop) → Prop
def spG (P : Program) (K : PySem.W.Frag) (mg : Str → Option Value) (S : List Addr) (J : Hp → Prop) (T : DSpec) : Sp := fun vs H Q E => ∃ (G : Hp) (xs : List DV) (Q' : DV → Prop) (R' : Str → PyData → Prop),
  Ex G H ∧ J H ∧ (∀ b, b ∈ S → G b = none) ∧ DvAll K [] G vs xs ∧ T xs Q' R' ∧
  (∀ x v G' H', Q' x → GrS S G H G' H' → J H' → Dv K [] G' v x → Q v H') ∧
  (∀ z x, R' z x → ∀ C bs v dd G' H', ErrC P K mg z C z bs → GrS S G H G' H' → J H' → Dp K G' v x → H dd = none → H' dd = some (.xd (errF z v)) → E (.ref C) (some dd) H')
def spD (P : Program) (K : PySem.W.Frag) (mg : Str → Option Value) (T : DSpec) : Sp := spG P K mg [] (fun _ => True) T
/-- what may be raised here: an error of name z with place x -/
def XOk (C : Cn) (E : XK) (z : Str) (x : PyData) : Prop := ∀ Ca bs v dd G H, ErrC C.P C.K C.mg z Ca z bs → Fin C G H → Dp C.K G v x → C.H0 dd = none → H dd = some (.xd (errF z v)) → E (.ref Ca) (some dd) H
theorem dvAll_noW {K : PySem.W.Frag} {σ : L2.St} {G : Hp} : ∀ {vs : List V} {xs : List DV}, DvAll K σ G vs xs → (∀ x, x ∈ xs → ∀ i, x ≠ .w i) → DvAll K [] G vs xs
  | _, _, .nil, _ => .nil
  | _, _, .cons (d := .d x) a b, h => .cons a (dvAll_noW b fun y hy => h y (List.mem_cons_of_mem _ hy))
  | _, _, .cons (d := .o x) a b, h => .cons a (dvAll_noW b fun y hy => h y (List.mem_cons_of_mem _ hy))
  | _, _, .cons (d := .w i) a b, h => absurd rfl (h _ List.mem_cons_self i)
def isW : DV → Bool
  | .w _ => true
  | _ => false
theorem dv_noSig {K : PySem.W.Frag} {σ : L2.St} {G : Hp} {v : V} : ∀ {x : DV}, Dv K [] G v x → Dv K σ G v x
  | .d _, h => h
  | .o _, h => h
  | .w _, h => by
    have h' : ([] : L2.St)[_]? = some (some v) := h
    simp at h'
section
variable {C : Cn} {ρ : DEnv} {Q : DV → Prop} {t : TA} {E : XK} {T : DSpec}
theorem GrS.nxt {σ : L2.St} {G H G' H' : Hp} (R : Rel C ρ σ G H) (g : GrS C.S G H G' H') (j : C.J H') : Nxt C ρ σ G H G' H' := by
  have F : Fin C G' H' := ⟨j, g.gs, R.fin.g0.trans g.eg, g.gh, R.fin.h0.trans g.eh, fun b h1 h2 => by
    cases z : G b with
    | none => exact R.fin.n0 (g.nw b h1 z)
    | some o => exact R.fin.gn b (by rw [z]; exact fun q => by cases q) h2⟩
  exact ⟨R.to F g.eg g.eh g.nw, g.eg, g.eh, g.nw⟩
theorem GrS.pure {G H G' H' : Hp} (F : Fin C G H) (g : GrS [] G H G' H') : GrS C.S G H G' H' ∧ C.J H' := by
  have e : Ex H H' := fun a o h => g.eh a o h (by simp)
  refine ⟨⟨g.eg, g.gh, fun a o h _ => e a o h, g.nw, fun b hb => ?_⟩, C.jl H H' F.j fun b hb => ?_⟩
  · cases z : G' b with
    | none => rfl
    | some o => exact absurd (g.nw b (by rw [z]; exact fun q => by cases q) (F.gs b hb)) (C.jn H F.j b hb)
  · cases z : H b with
    | none => exact absurd z (C.jn H F.j b hb)
    | some o => exact e b o z
/-- a call of a def of data -/
theorem we_callD (h : WA C t ρ fun xs => xs.any isW = false ∧ ∃ R', T xs Q R' ∧ ∀ z x, R' z x → XOk C E z x) : WE C (tCall (spD C.P C.K C.mg T) [] E t) ρ Q := fun σ G H Q0 R k =>
  h σ G H _ R fun xs vs G1 H1 ⟨hw, R', hT, hx⟩ n1 da => by
    rw [List.append_nil]
    have da' := dvAll_noW da fun x hx i e => by
      rw [List.any_eq_false] at hw
      exact hw x hx (by rw [e]; rfl)
    refine ⟨G1, xs, Q, R', n1.rel.fin.gh, trivial, fun b hb => absurd hb (by simp), da', hT, fun x v G' H' q g _ dv => ?_, fun z x hz Ca bs v dd G' H' T' g _ dv hd hxd => ?_⟩
    · obtain ⟨g', j⟩ := g.pure n1.rel.fin
      exact k x v G' H' q (n1.trans (g'.nxt n1.rel j) R.fin.j) (dv_noSig dv)
    · obtain ⟨g', j⟩ := g.pure n1.rel.fin
      exact hx z x hz Ca bs v dd G' H' T' (g'.nxt n1.rel j).rel.fin dv (n1.rel.fin.n0 hd) hxd
/-- a call of a def that leads on what stands at S -/
theorem we_callS (h : WA C t ρ fun xs => xs.any isW = false ∧ ∃ R', T xs Q R' ∧ ∀ z x, R' z x → XOk C E z x) : WE C (tCall (spG C.P C.K C.mg C.S C.J T) [] E t) ρ Q := fun σ G H Q0 R k =>
  h σ G H _ R fun xs vs G1 H1 ⟨hw, R', hT, hx⟩ n1 da => by
    rw [List.append_nil]
    have da' := dvAll_noW da fun x hx i e => by
      rw [List.any_eq_false] at hw
      exact hw x hx (by rw [e]; rfl)
    refine ⟨G1, xs, Q, R', n1.rel.fin.gh, n1.rel.fin.j, n1.rel.fin.gs, da', hT, fun x v G' H' q g j dv => ?_, fun z x hz Ca bs v dd G' H' T' g j dv hd hxd => ?_⟩
    · exact k x v G' H' q (n1.trans (g.nxt n1.rel j) R.fin.j) (dv_noSig dv)
    · exact hx z x hz Ca bs v dd G' H' T' (g.nxt n1.rel j).rel.fin dv (n1.rel.fin.n0 hd) hxd
end
/-- the slots at the entry -/
def slotOf : DV → Option Slt
  | .d x => some (.im x)
  | .o v => some (.op v)
  | .w _ => none
def entryD (xs : List DV) (n : Nat) : DEnv := xs.map slotOf ++ List.replicate (n - xs.length) none
section
variable {P : Program} {K : PySem.W.Frag} {mg : Str → Option Value} {S : List Addr} {J : Hp → Prop} {T : DSpec} {t : TS} {N : List Str} {vs : List V} {H : Hp} {Q : VK} {E : XK}
theorem dvAll_length {σ : L2.St} {G : Hp} : ∀ {vs : List V} {xs : List DV}, DvAll K σ G vs xs → vs.length = xs.length
  | _, _, .nil => rfl
  | _, _, .cons _ b => by simp [dvAll_length b]
theorem dvAll_at {σ : L2.St} {G : Hp} : ∀ {vs : List V} {xs : List DV} {i : Nat} {x : DV}, DvAll K σ G vs xs → xs[i]? = some x → ∃ v, vs[i]? = some v ∧ Dv K σ G v x
  | _, _, _, _, .nil, e => by simp at e
  | _, _, 0, _, .cons a b, e => by
    simp at e
    subst e
    exact ⟨_, rfl, a⟩
  | _, _, i + 1, _, .cons a b, e => by
    obtain ⟨v, h1, h2⟩ := dvAll_at (i := i) b (by simpa using e)
    exact ⟨v, by simpa using h1, h2⟩
theorem entry_get {xs : List DV} {n i : Nat} {s : Slt} (h : (entryD xs n)[i]? = some (some s)) : ∃ x, xs[i]? = some x ∧ slotOf x = some s := by
  unfold entryD at h
  by_cases l : i < xs.length
  · rw [List.getElem?_append_left (by simpa using l), List.getElem?_map] at h
    obtain ⟨x, h1, h2⟩ := Option.map_eq_some_iff.mp h
    exact ⟨x, h1, h2⟩
  · rw [List.getElem?_append_right (by simpa using l)] at h
    obtain ⟨_, h2⟩ := List.getElem?_eq_some_iff.mp h
    rw [List.getElem_replicate] at h2
    cases h2
theorem rel_entry {C : Cn} {G : Hp} {xs : List DV} (F : Fin C G H) (da : DvAll C.K [] G vs xs) (hl : vs.length ≤ N.length) : Rel C (entryD xs N.length) (L2.start N vs) G H where
  fin := F
  len := by
    have e := dvAll_length da
    unfold entryD L2.start
    simp only [List.length_append, List.length_map, List.length_replicate]
    omega
  im := fun i d h => by
    obtain ⟨x, h1, h2⟩ := entry_get h
    obtain ⟨v, h3, h4⟩ := dvAll_at da h1
    cases x with
    | d y =>
      cases h2
      refine ⟨v, ?_, h4⟩
      unfold L2.start
      rw [List.getElem?_append_left (by rw [List.length_map]; exact lt_of_get h3), List.getElem?_map, h3]
      rfl
    | o u => cases h2
    | w j => cases h2
  op := fun i u h => by
    obtain ⟨x, h1, h2⟩ := entry_get h
    obtain ⟨v, h3, h4⟩ := dvAll_at da h1
    cases x with
    | d y => cases h2
    | o y =>
      cases h2
      have e : v = u := h4
      subst e
      unfold L2.start
      rw [List.getElem?_append_left (by rw [List.length_map]; exact lt_of_get h3), List.getElem?_map, h3]
      rfl
    | w j => cases h2
  ow := fun i ds h => by
    obtain ⟨x, h1, h2⟩ := entry_get h
    cases x <;> cases h2
  ex := fun i a cls d z y h => by
    obtain ⟨x, h1, h2⟩ := entry_get h
    cases x <;> cases h2
  sep := fun i j ds es a _ h => by
    obtain ⟨x, h1, h2⟩ := entry_get h
    cases x <;> cases h2
/-- a def's body keeps its promise -/
theorem run_def (jl : ∀ H H', J H → (∀ b, b ∈ S → H' b = H b) → J H') (jn : ∀ H, J H → ∀ b, b ∈ S → H b ≠ none) (h : spG P K mg S J T vs H Q E) (hl : vs.length ≤ N.length)
    (hb : ∀ (C : Cn), C.P = P → C.K = K → C.mg = mg → C.S = S → C.J = J → ∀ xs Q' R', T xs Q' R' → xs.length = vs.length → (∀ z x, R' z x → XOk C E z x) → WS C t (entryD xs N.length) { nx := fun _ => Q' (.d .none), rt := Q' }) :
    t { nx := fun _ H' => Q .non H', rt := Q } (L2.start N vs) H := by
  obtain ⟨G, xs, Q', R', gh, j, gs, da, hT, hq, hx⟩ := h
  let C : Cn := ⟨P, K, mg, S, J, H, G, jl, jn⟩
  have F : Fin C G H := ⟨j, gs, .refl _, gh, .refl _ _, fun b h1 h2 => absurd h2 h1⟩
  have gr : ∀ {G' H' : Hp}, Fin C G' H' → GrS S G H G' H' := fun {G' H'} F' => ⟨F'.g0, F'.gh, F'.h0, F'.gn, F'.gs⟩
  refine hb C rfl rfl rfl rfl rfl xs Q' R' hT (dvAll_length da).symm (fun z x hz Ca bs v dd G' H' T' F' dv hd hxd => hx z x hz Ca bs v dd G' H' T' (gr F') F'.j dv hd hxd) (L2.start N vs) G H _ (rel_entry F da hl) ⟨?_, ?_, ?_, ?_⟩
  · intro ρ σ G' H' q R' e
    exact hq _ _ G' H' q (gr R'.fin) R'.fin.j .non
  · intro x v G' H' q F' dv
    exact hq x v G' H' q (gr F') F'.j dv
  · intro ρ σ G' H' q
    exact q.elim
  · intro ρ σ G' H' q
    exact q.elim
theorem run_defD (h : spD P K mg T vs H Q E) (hl : vs.length ≤ N.length)
    (hb : ∀ (C : Cn), C.P = P → C.K = K → C.mg = mg → C.S = [] → ∀ xs Q' R', T xs Q' R' → xs.length = vs.length → (∀ z x, R' z x → XOk C E z x) → WS C t (entryD xs N.length) { nx := fun _ => Q' (.d .none), rt := Q' }) :
    t { nx := fun _ H' => Q .non H', rt := Q } (L2.start N vs) H :=
  run_def (fun _ _ _ _ => trivial) (fun _ _ b hb => absurd hb (by simp)) h hl fun C e1 e2 e3 e4 _ => hb C e1 e2 e3 e4
end
end DL

set_option Elab.async false
set_option linter.all false
set_option maxRecDepth 100000
set_option maxHeartbeats 1000000
/-! The layer of data: operators that serve all kinds; calls by name. -/
namespace DL
open PySem L2
section
variable {X : Cx}
def rAddI : R2 := rI0 fun i j => .int (i + j)
def rAddS : R2 := fun x y H Q => ∃ i j, x = .str i ∧ y = .str j ∧ i.length + j.length ≤ sizeLine ∧ Q (.str (i ++ j)) H
def rAddX (K : PySem.W.Frag) : R2 := fun x y H Q => rAddI x y H Q ∨ (rCatA K x y H Q ∨ (rCat x y H Q ∨ rAddS x y H Q))
theorem op_addX : OpR X (binaryOp .Add) (rAddX X.K) := OpR.or op_add (OpR.or op_catA (OpR.or op_cat op_add_str))
def rSubI : R2 := rI0 fun i j => .int (i - j)
def rMulX : R2 := fun x y H Q => rI CMul (fun i j => .int (i * j)) x y H Q ∨ (rI CMulW (fun i j => .int (i * j)) x y H Q ∨ rRep x y H Q)
theorem op_mulX : OpR X (binaryOp .Mult) rMulX := OpR.or op_mul (OpR.or op_mulW op_rep)
def rEqX (K : PySem.W.Frag) : R2 := fun x y H Q => rEq x y H Q ∨ rEqD K x y H Q
def rNeX (K : PySem.W.Frag) : R2 := fun x y H Q => rNe x y H Q ∨ rNeD K x y H Q
theorem op_eqX (hu : X.A.units + 64 < cLine) : OpR X (compareOp .Eq) (rEqX X.K) := OpR.or op_eq (op_eqD hu)
theorem op_neX (hu : X.A.units + 64 < cLine) : OpR X (compareOp .NotEq) (rNeX X.K) := OpR.or op_ne (op_neD hu)
end
/-- a def of the text that keeps its promise, under its name -/
def OkD (P : Program) (w : World) (K : PySem.W.Frag) (mg : Str → Option Value) (base : Heap) (CX : CXT) (x : Str) (k : Nat) (sp : Sp) : Prop :=
  ∃ (f : Addr) (fd : FuncData) (ps : List Str), FnOk P w K mg base CX k f fd ps sp ∧ mg x = some (.ref f) ∧ PySem.W.keepIn K (.ref f) = true ∧ Binds K fd ps []
section
variable {X : Cx} {CX : CXT} {x : Str} {k : Nat} {sp : Sp} {e : Expr} {es : List Expr} {t : TA} {p pos : Pos} {E : XK}
theorem pe_callO (G : OkD X.prog X.w X.K X.mg X.base CX x k sp) (hr : Room k X.A) (hx : Passes CX X E) (ha : PA X (e :: es) t) (hg : Gl X x := by rfl) (hdb : (x == ("__debug__" : Str)) = false := by decide)
    (he : starEach (e :: es) X.env = (false, eval e X.env) :: starEach es X.env := by rfl) (hpl : (backTo pos (starEach es X.env)).any (·.1) = false := by rfl) : PE X (.Call (.Name x p) (e :: es) [] pos) (tCall sp [] E t) := by
  obtain ⟨f, fd, ps, F, hm, hk, hb⟩ := G
  exact pe_call F hr hg hm hk hb .nil hx ha hdb he hpl
theorem pe_callO0 (G : OkD X.prog X.w X.K X.mg X.base CX x k sp) (hr : Room k X.A) (hx : Passes CX X E) (hg : Gl X x := by rfl) (hdb : (x == ("__debug__" : Str)) = false := by decide) : PE X (.Call (.Name x p) [] [] pos) (tCall sp [] E tNil) := by
  obtain ⟨f, fd, ps, F, hm, hk, hb⟩ := G
  exact pe_call0 F hr hg hm hk hb .nil hx hdb
/-- a call in a try: what it raises is wished for at the slots -/
theorem pe_callOS {E : L2.St → XK} (G : OkD X.prog X.w X.K X.mg X.base CX x k sp) (hr : Room k X.A) (hx : ∀ σ, PassesAt CX X σ (E σ)) (ha : PA X (e :: es) t) (hg : Gl X x := by rfl) (hdb : (x == ("__debug__" : Str)) = false := by decide)
    (he : starEach (e :: es) X.env = (false, eval e X.env) :: starEach es X.env := by rfl) (hpl : (backTo pos (starEach es X.env)).any (·.1) = false := by rfl) : PE X (.Call (.Name x p) (e :: es) [] pos) (tCallS sp E t) := by
  obtain ⟨f, fd, ps, F, hm, hk, hb⟩ := G
  exact pe_callS F hr hg hm hk hb hx ha hdb he hpl
end
section
variable {C : Cn} {ρ : DEnv} {te : TE} {t : TA} {Q : DV → Prop} {E : XK}
/-! ### operators by data -/
theorem ro_addI {i j : Int} (q : Q (.d (.int (i + j)))) : RO C (rAddX C.K) (.d (.int i)) (.d (.int j)) ρ Q := ro_or1 (ro_I0 q)
theorem ro_subI {i j : Int} (q : Q (.d (.int (i - j)))) : RO C (rI0 fun i j => .int (i - j)) (.d (.int i)) (.d (.int j)) ρ Q := ro_I0 q
theorem ro_mulS {i j : Int} (h : CMul i j) (q : Q (.d (.int (i * j)))) : RO C rMulX (.d (.int i)) (.d (.int j)) ρ Q := ro_or1 (ro_I h q)
theorem ro_mulW {i j : Int} (h : CMulW i j) (q : Q (.d (.int (i * j)))) : RO C rMulX (.d (.int i)) (.d (.int j)) ρ Q := ro_or2 (ro_or1 (ro_I h q))
theorem ro_divW {i j : Int} (h : CDivW i j) (q : Q (.d (.int (i / j)))) : RO C (rI CDivW fun i j => .int (i / j)) (.d (.int i)) (.d (.int j)) ρ Q := ro_I h q
theorem ro_modN {i j : Int} (h : 0 < j) (q : Q (.d (.int (i % j)))) : RO C (rI (fun _ j => j ≠ 0) fun i j => .int (i.fmod j)) (.d (.int i)) (.d (.int j)) ρ Q := by
  refine ro_I (by omega) ?_
  rw [Int.fmod_eq_emod_of_nonneg i (by omega)]
  exact q
theorem ro_eqXI {i j : Int} (q : Q (.d (.bool (decide (i = j))))) : RO C (rEqX C.K) (.d (.int i)) (.d (.int j)) ρ Q := ro_or1 (ro_eqI q)
theorem ro_neXI {i j : Int} (q : Q (.d (.bool (!decide (i = j))))) : RO C (rNeX C.K) (.d (.int i)) (.d (.int j)) ρ Q := ro_or1 (ro_neI q)
theorem ro_eqX {d e : PyData} (s1 : SeqAt.shaped d = true) (s2 : SeqAt.shaped e = true) (q : Q (.d (.bool (PyData.eqv d e)))) : RO C (rEqX C.K) (.d d) (.d e) ρ Q := ro_or2 (ro_eqD s1 s2 q)
theorem ro_neX {d e : PyData} (s1 : SeqAt.shaped d = true) (s2 : SeqAt.shaped e = true) (q : Q (.d (.bool (!PyData.eqv d e)))) : RO C (rNeX C.K) (.d d) (.d e) ρ Q := ro_or2 (ro_neD s1 s2 q)
/-- tuple + tuple -/
theorem ro_addT {ds es : List PyData} (hl : ds.length + es.length ≤ 100000) (q : Q (.d (.tuple (ds ++ es)))) : RO C (rAddX C.K) (.d (.tuple ds)) (.d (.tuple es)) ρ Q := fun σ G H u v Q0 R d1 d2 k => by
  have d1' : Dp C.K G u (.tuple ds) := d1
  have d2' : Dp C.K G v (.tuple es) := d2
  cases d1' with
  | @tup a xs _ s1 a1 =>
    cases d2' with
    | @tup b ys _ s2 a2 =>
      have l1 := dpAll_length a1
      have l2 := dpAll_length a2
      refine .inr (.inl ⟨a, b, xs, ys, rfl, rfl, sqT_mono R.fin.gh s1, sqT_mono R.fin.gh s2, by rw [sizeLine_eq]; omega, fun hx => ?_, fun _ hy => ?_, fun _ _ p hp => ?_⟩)
      · subst hx
        cases a1
        exact k _ _ G H q (.refl R) d2
      · subst hy
        cases a2
        rw [List.append_nil] at q
        exact k _ _ G H q (.refl R) d1
      · have n := R.newIm hp (.tup (xs ++ ys))
        exact k _ _ _ _ q n (.tup (SqT.of upd_same) (dpAll_mono n.eg (dpAll_append a1 a2)))
end
end DL

set_option Elab.async false
set_option linter.all false
set_option maxRecDepth 100000
set_option maxHeartbeats 1000000
/-! The layer of data: errors raised, passed on, caught. -/
namespace DL
open PySem L2
section
variable {C : Cn} {ρ : DEnv} {D : DE} {ta t : TA} {te : TE} {ts : TS} {Q : DV → Prop} {z u : Str} {x : PyData} {E : XK} {W : WX} {T : DSpec}
/-- raise C(e) -/
theorem ws_raise {Ca : Addr} {bs : List Addr} (U : ErrC C.P C.K C.mg z Ca z bs) (h : WA C ta ρ fun xs => ∃ x, xs = [.d x] ∧ XOk C E z x) : WS C (fun _ σ H => tMkE Ca z ta σ H fun cls d H' => E cls d H') ρ D := fun σ G H D0 R _ =>
  h σ G H _ R fun xs vs G1 H1 ⟨x, e, hx⟩ n1 da => by
    subst e
    cases da with
    | cons a b =>
      cases b
      exact ⟨_, rfl, fun d hd => hx Ca bs _ d G1 _ U (n1.rel.fin.newOw hd _) a (n1.rel.fin.n0 hd) upd_same⟩
/-- in a try: what is wished of an error of name z with place x at the slots -/
def WOk (C : Cn) (W : WX) (ρ : DEnv) (z : Str) (x : PyData) : Prop := ∀ (σ : L2.St) (G H : Hp) (Ca : Addr) (bs : List Addr) (v : V) (dd : Addr), ErrC C.P C.K C.mg z Ca z bs → Rel C ρ σ G H → Dp C.K G v x → dd ∉ C.S → C.H0 dd = none → H dd = some (.xd (errF z v)) → W (.ref Ca) (some dd) σ H
theorem we_callDS (h : WA C t ρ fun xs => xs.any isW = false ∧ ∃ R', T xs Q R' ∧ ∀ z x, R' z x → WOk C W ρ z x) : WE C (tCallS (spD C.P C.K C.mg T) (L2.WE W) t) ρ Q := fun σ G H Q0 R k =>
  h σ G H _ R fun xs vs G1 H1 ⟨hw, R', hT, hx⟩ n1 da => by
    have da' := dvAll_noW da fun x hx i e => by
      rw [List.any_eq_false] at hw
      exact hw x hx (by rw [e]; rfl)
    refine ⟨G1, xs, Q, R', n1.rel.fin.gh, trivial, fun b hb => absurd hb (by simp), da', hT, fun x v G' H' q g _ dv => ?_, fun z x hz Ca bs v dd G' H' T' g _ dv hd hxd => ?_⟩
    · obtain ⟨g', j⟩ := g.pure n1.rel.fin
      exact k x v G' H' q (n1.trans (g'.nxt n1.rel j) R.fin.j) (dv_noSig dv)
    · obtain ⟨g', j⟩ := g.pure n1.rel.fin
      exact hx z x hz σ G' H' Ca bs v dd T' (g'.nxt n1.rel j).rel dv (n1.rel.fin.nS hd) (n1.rel.fin.n0 hd) hxd
theorem we_callSS (h : WA C t ρ fun xs => xs.any isW = false ∧ ∃ R', T xs Q R' ∧ ∀ z x, R' z x → WOk C W ρ z x) : WE C (tCallS (spG C.P C.K C.mg C.S C.J T) (L2.WE W) t) ρ Q := fun σ G H Q0 R k =>
  h σ G H _ R fun xs vs G1 H1 ⟨hw, R', hT, hx⟩ n1 da => by
    have da' := dvAll_noW da fun x hx i e => by
      rw [List.any_eq_false] at hw
      exact hw x hx (by rw [e]; rfl)
    refine ⟨G1, xs, Q, R', n1.rel.fin.gh, n1.rel.fin.j, n1.rel.fin.gs, da', hT, fun x v G' H' q g j dv => ?_, fun z x hz Ca bs v dd G' H' T' g j dv hd hxd => ?_⟩
    · exact k x v G' H' q (n1.trans (g.nxt n1.rel j) R.fin.j) (dv_noSig dv)
    · exact hx z x hz σ G' H' Ca bs v dd T' (g.nxt n1.rel j).rel dv (n1.rel.fin.nS hd) (n1.rel.fin.n0 hd) hxd
theorem map_ref_inj : ∀ {l k : List Addr}, l.map Value.ref = k.map Value.ref → l = k
  | [], [], _ => rfl
  | [], _ :: _, h => by cases h
  | _ :: _, [], h => by cases h
  | a :: l, b :: k, h => by
    rw [List.map_cons, List.map_cons] at h
    have h1 := (List.cons.inj h).1
    have h2 := map_ref_inj (List.cons.inj h).2
    cases h1
    rw [h2]
/-- the classes of errors, of one name, are one -/
theorem errC_one {P : Program} {K : PySem.W.Frag} {mg : Str → Option Value} {C D : Addr} {bs ds : List Addr} (T : ErrC P K mg z C z bs) (U : ErrC P K mg z D z ds) : C = D ∧ bs = ds := by
  have e : C = D := by
    have h := T.gC.symm.trans U.gC
    exact Value.ref.inj (Option.some.inj h)
  subst e
  refine ⟨rfl, ?_⟩
  obtain ⟨q, N, bv, sn, sub, ab, col, dd, k0, k1, k2, k3, k5, h1⟩ := T.cls
  obtain ⟨q', N', bv', sn', sub', ab', col', dd', k0', k1', k2', k3', k5', h2⟩ := U.cls
  rw [h1] at h2
  have h3 := congrArg Obj.data (Option.some.inj h2)
  injection h3 with h4
  have h5 : Value.ref C :: (bs.map Value.ref ++ PySem.HandSPX.veTail) = Value.ref C :: (ds.map Value.ref ++ PySem.HandSPX.veTail) := congrArg ClassData.mro h4
  have h6 := List.append_cancel_right (List.cons.inj h5).2
  exact map_ref_inj h6
section
variable {Wout : WX} {l : List Clause} {D0 : Ends} {c : Value} {i : Nat} {sfx : Addr → Value → Option Addr → TS}
/-- the clause's class is not the error's, nor above it -/
theorem wok_miss {o : Option Nat} {Cc Ca : Addr} {bs cs : List Addr} (T : ErrC C.P C.K C.mg z Ca z bs) (U : ErrC C.P C.K C.mg u Cc u cs) (hn : z ≠ u) (hb : Cc ∉ bs) (h : WOk C (wCl C.K Wout D0 l) ρ z x) : WOk C (wCl C.K Wout D0 ((.ref Cc, o, sfx) :: l)) ρ z x := by
  intro σ G H Ca' bs' v dd T' R dv nS n0 hxd
  obtain ⟨rfl, rfl⟩ := errC_one T' T
  have e := T'.exm_no U hn hb
  cases o with
  | none => exact ⟨false, e, fun q => Bool.noConfusion q, fun _ => h σ G H _ _ v dd T' R dv nS n0 hxd⟩
  | some i => exact ⟨false, e, fun q => Bool.noConfusion q, fun _ => h σ G H _ _ v dd T' R dv nS n0 hxd⟩
/-- it is, or is above it: the suite, its name's slot holding the error -/
theorem wok_hit {Cc Ca : Addr} {bs cs : List Addr} (T : ErrC C.P C.K C.mg z Ca z bs) (U : ErrC C.P C.K C.mg u Cc u cs) (hm : Cc ∈ Ca :: bs)
    (h : ∀ a cls d, WS C (sfx a cls d) (ρ.set i (some (.ex a cls d z x))) { nx := fun ρ' => D.nx (ρ'.set i none), rt := D.rt, bk := fun ρ' => D.bk (ρ'.set i none), ct := fun ρ' => D.ct (ρ'.set i none) }) (hE : ∀ G, Ex C.G0 G → EndsOk C D D0 G) :
    WOk C (wCl C.K Wout D0 ((.ref Cc, some i, sfx) :: l)) ρ z x := by
  intro σ G H Ca' bs' v dd T' R dv nS n0 hxd
  obtain ⟨rfl, rfl⟩ := errC_one T' T
  have e : PySem.W.exmOne C.K (.ref Ca') (.ref Cc) = some true := by
    rw [T'.exm U, decide_eq_true hm]
  refine ⟨true, e, fun _ a ha => ?_, fun q => Bool.noConfusion q⟩
  have E' := hE G R.fin.g0
  refine h a (.ref Ca') (some dd) (σ.set i (some (.ref a))) G H _ (R.setEx ⟨Ca', bs', dd, v, T', rfl, rfl, nS, hxd, dv⟩) ⟨?_, E'.rt, ?_, ?_⟩
  · intro ρ' σ' G' H' q R' e
    exact E'.nx _ _ G' H' q R'.setNo e
  · intro ρ' σ' G' H' q R' e
    exact E'.bk _ _ G' H' q R'.setNo e
  · intro ρ' σ' G' H' q R' e
    exact E'.ct _ _ G' H' q R'.setNo e
theorem wok_hit0 {Cc Ca : Addr} {bs cs : List Addr} (T : ErrC C.P C.K C.mg z Ca z bs) (U : ErrC C.P C.K C.mg u Cc u cs) (hm : Cc ∈ Ca :: bs) (h : ∀ a cls d, WS C (sfx a cls d) ρ D) (hE : ∀ G, Ex C.G0 G → EndsOk C D D0 G) :
    WOk C (wCl C.K Wout D0 ((.ref Cc, none, sfx) :: l)) ρ z x := by
  intro σ G H Ca' bs' v dd T' R dv nS n0 hxd
  obtain ⟨rfl, rfl⟩ := errC_one T' T
  have e : PySem.W.exmOne C.K (.ref Ca') (.ref Cc) = some true := by
    rw [T'.exm U, decide_eq_true hm]
  exact ⟨true, e, fun _ a ha => h a (.ref Ca') (some dd) σ G H _ R (hE G R.fin.g0), fun q => Bool.noConfusion q⟩
end
/-- the same, its entry's unchanged part being what is there now -/
def _root_.DL.Cn.at (C : Cn) (Gs : Hp) : Cn := { C with G0 := Gs }
theorem Fin.unat {Gs Hs G H : Hp} (F : Fin C Gs Hs) (F' : Fin (C.at Gs) G H) : Fin C G H :=
  ⟨F'.j, F'.gs, F.g0.trans F'.g0, F'.gh, F'.h0, fun b h1 h2 => by
    cases z : Gs b with
    | none => exact F'.gn b h1 z
    | some o => exact F.gn b (by rw [z]; exact fun q => by cases q) h2⟩
theorem Fin.at {Gs Hs G H : Hp} (_F : Fin C Gs Hs) (F' : Fin C G H) (e : Ex Gs G) (n : ∀ b, G b ≠ none → Gs b = none → C.H0 b = none) : Fin (C.at Gs) G H := ⟨F'.j, F'.gs, e, F'.gh, F'.h0, n⟩
theorem Rel.unat {σ : L2.St} {Gs Hs G H : Hp} (F : Fin C Gs Hs) (R : Rel (C.at Gs) ρ σ G H) : Rel C ρ σ G H := ⟨F.unat R.fin, R.len, R.im, R.op, R.ow, R.ex, R.sep⟩
/-- a try: its body with what is wished of errors by the clauses -/
theorem ws_try {tb : WX → TS} {Wout : WX} {l : List Clause} (h : ∀ (Gs : Hp) (D0 : Ends), (∀ G, Ex Gs G → EndsOk (C.at Gs) D D0 G) → (∀ E z x, XOk C E z x → XOk (C.at Gs) E z x) → WS (C.at Gs) (tb (wCl C.K Wout D0 l)) ρ D) : WS C (fun D σ H => tb (wCl C.K Wout D l) D σ H) ρ D := fun σ G H D0 R E => by
  have R' : Rel (C.at G) ρ σ G H := ⟨⟨R.fin.j, R.fin.gs, .refl _, R.fin.gh, R.fin.h0, fun b h1 h2 => absurd h2 h1⟩, R.len, R.im, R.op, R.ow, R.ex, R.sep⟩
  have E' : ∀ G', Ex G G' → EndsOk (C.at G) D D0 G' := fun G' e => ⟨fun ρ σ g H a b c => E.nx ρ σ g H a (b.unat R.fin) (e.trans c), fun x v g H a b c => E.rt x v g H a (R.fin.unat b) c, fun ρ σ g H a b c => E.bk ρ σ g H a (b.unat R.fin) (e.trans c), fun ρ σ g H a b c => E.ct ρ σ g H a (b.unat R.fin) (e.trans c)⟩
  exact h G D0 E' (fun E z x hx Ca bs v dd G' H' T F dv n0 hxd => hx Ca bs v dd G' H' T (R.fin.unat F) dv n0 hxd) σ G H D0 R' (E' G (.refl _))
theorem wok_out {E : XK} (h : XOk C E z x) : WOk C (fun cls d _ H => E cls d H) ρ z x := fun σ G H Ca bs v dd T R dv _ n0 hxd => h Ca bs v dd G H T R.fin dv n0 hxd
/-- the place, the name of an error that a slot holds -/
theorem we_errP {i : Nat} {a : Addr} {cls : Value} {d : Option Addr} (hi : ρ[i]? = some (some (.ex a cls d z x))) (q : Q (.d x)) : WE C (tErrF C.P C.K C.mg a cls d "place" (tVar i)) ρ Q := fun σ G H Q0 R k => by
  obtain ⟨h1, Ca, bs, dd, v, h2, h3, h4, h5, h6, h7⟩ := R.ex i a cls d z x hi
  exact ⟨_, h1, rfl, z, z, Ca, bs, dd, v, v, h2, h3, h4, h6, errF_place z v, .inl rfl, k _ v G H q (.refl R) h7⟩
theorem we_errN {i : Nat} {a : Addr} {cls : Value} {d : Option Addr} (hi : ρ[i]? = some (some (.ex a cls d z x))) (q : Q (.d (.str z))) : WE C (tErrF C.P C.K C.mg a cls d "name" (tVar i)) ρ Q := fun σ G H Q0 R k => by
  obtain ⟨h1, Ca, bs, dd, v, h2, h3, h4, h5, h6, h7⟩ := R.ex i a cls d z x hi
  exact ⟨_, h1, rfl, z, z, Ca, bs, dd, v, .str z, h2, h3, h4, h6, errF_name z v, .inr rfl, k _ _ G H q (.refl R) (.str z)⟩
end
end DL

set_option Elab.async false
set_option linter.all false
set_option maxRecDepth 100000
set_option maxHeartbeats 1000000
namespace K
open PySem L2 DL
def top (i : Nat) : Stmt := PySem.Challenge.pw_readslittle_k00_errors.main.body.getD i (.Pass ⟨0, 0, 0, 0⟩)
/-- what the top says of built-in names -/
structure Txt (K : PySem.W.Frag) (mg : Str → Option Value) : Prop where
  n_len : mg "len" = none
  n_int : mg "int" = none
  n_abs : mg "abs" = none
  n_range : mg "range" = none
/-! ## The draws: the state is a list of a list of numbers from 0 on and a number -/
def drawJ (s c : Addr) : Hp → Prop := fun H => s ≠ c ∧ ∃ (ns : List Int) (x : Int), H s = some (.lst [.ref c, .int x]) ∧ H c = some (.lst (ns.map V.int)) ∧ (∀ n, n ∈ ns → 0 ≤ n) ∧ 0 ≤ x ∧ x < 2147483648 ∧ ns.length ≤ 63
theorem drawJ_l {s c : Addr} : ∀ H H', drawJ s c H → (∀ b, b ∈ [s, c] → H' b = H b) → drawJ s c H' := fun H H' ⟨n, ns, x, h1, h2, r⟩ e => ⟨n, ns, x, by rw [e s (by simp)]; exact h1, by rw [e c (by simp)]; exact h2, r⟩
theorem drawJ_n {s c : Addr} : ∀ H, drawJ s c H → ∀ b, b ∈ [s, c] → H b ≠ none := fun H ⟨n, ns, x, h1, h2, r⟩ b hb => by
  rcases List.mem_cons.mp hb with e | hb
  · rw [e, h1]; exact fun q => by cases q
  · rcases List.mem_cons.mp hb with e | hb
    · rw [e, h2]; exact fun q => by cases q
    · cases hb
/-- a draw: a number from 0 on below m -/
def drawT (s : Addr) : DSpec := fun xs Q _ => ∃ m : Int, xs = [.o (.ref s), .d (.int m)] ∧ 0 < m ∧ m < 2 ^ 64 ∧ ∀ r : Int, 0 ≤ r → r < m → Q (.d (.int r))
def spDraw (P : Program) (K : PySem.W.Frag) (mg : Str → Option Value) : Sp := fun vs H Q E => ∃ s c, spG P K mg [s, c] (drawJ s c) (drawT s) vs H Q E
/-- the state from the script -/
def spState (K : PySem.W.Frag) : Sp := fun vs H Q _ => ∃ (a : Addr) (ns : List Int), vs = [.ref a] ∧ SqL K H a (ns.map V.int) ∧ ns.length ≤ 63 ∧ ∀ s c H', Ex H H' → H s = none → H c = none → drawJ s c H' → Q (.ref s) H'
section
variable {P : Program} {w : World} {K : PySem.W.Frag} {mg : Str → Option Value} {base : Heap}
abbrev s_law_state : Stmt := top 17
theorem sc_law_state : FnScope ["script", "seed", "cell"] ["script"] (defScope s_law_state) := ⟨rfl, rfl, rfl, by decide +kernel, rfl, by decide +kernel, by decide +kernel⟩
theorem take_succ' {α : Type} {l : List α} {i : Nat} {x : α} (h : l[i]? = some x) : l.take (i + 1) = l.take i ++ [x] := by
  rw [List.take_add_one, h]
  rfl
theorem ok_state {f : Addr} {fd : FuncData} (F : Fun K "_law_state" "_law_state" s_law_state f fd) (T : Txt K mg) : FnOk P w K mg base CX0 2 f fd ["script"] (spState K) := by
  refine F.ok sc_law_state (fun vs H Q E h => ?_) (fun cdv A outer s H vs Q E hr h => ?_)
  · obtain ⟨a, ns, rfl, _⟩ := h
    rfl
  · obtain ⟨a, ns, rfl, hS, hl, k⟩ := h
    refine ⟨_, (pss_cons (ps_set (i := 1) sc_law_state.nd rfl (Or.inl rfl) pe_int)
      (pss_cons (ps_for PassesOwn.never rfl (pi_list (pv 0)) (pg_name (i := 2) sc_law_state.nd rfl (Or.inl rfl))
        (pss_one (ps_set (i := 1) sc_law_state.nd rfl (Or.inl rfl) (pe_op op_modN (pe_callTy call_int1 (by rfl) T.n_int (by decide +kernel) (pa_cons (pe_op op_add (pe_op op_mul (pv 1) pe_int) (pv 2)) pa_nil)) pe_int))))
      (pss_one (ps_ret (pe_lst (pa_cons (pe_lc (own := [("cell", 2)]) rfl sc_law_state.nd (pi_list (pv 0)) (blkOk_by (N := ["script", "seed", "cell"]) (sc := defScope s_law_state) (by decide +kernel)) (fun _ _ _ _ _ => (pg_name (i := 2) sc_law_state.nd rfl (Or.inl rfl))) (fun _ _ _ _ _ => pts_nil) (fun _ _ _ _ _ => (pe_callB call_abs (by rfl) T.n_abs (by decide +kernel) (pa_cons (pv 2) pa_nil)))) (pa_cons (pe_op op_add (pv 1) pe_int) pa_nil))))))), ?_⟩
    have item : ∀ {i : Nat} {y : V}, (ns.map V.int)[i]? = some y → ∃ z, y = V.int z ∧ ns[i]? = some z := fun {i y} hi => by
      rw [List.getElem?_map] at hi
      obtain ⟨z, h1, h2⟩ := Option.map_eq_some_iff.mp hi
      exact ⟨z, h2.symm, h1⟩
    refine ⟨_, rfl, a, rfl, ⟨_, hS⟩, for_list (K := K) (a := a) (xs := ns.map V.int) (fun i σ H2 => H2 = H ∧ ∃ (x : Int) (v : Option V), σ = [some (.ref a), some (.int x), v] ∧ 0 ≤ x ∧ x < 1000003) ⟨rfl, 7, none, rfl, by decide, by decide⟩ (fun i σ H2 _ ⟨e, _⟩ => by rw [e]; exact hS) ?_ ?_⟩
    · rintro i y σ H2 hi ⟨rfl, x, v, rfl, h0, h1⟩
      obtain ⟨z, rfl, _⟩ := item hi
      refine ⟨_, rfl, _, _, rfl, rfl, .inl ⟨by omega, by omega⟩, _, rfl, _, _, rfl, rfl, .inl ⟨_, rfl, _, _, rfl, rfl, (show (1000003 : Int) ≠ 0 by decide), rfl, _, _, rfl, ?_, ?_⟩⟩
      · rw [Int.fmod_eq_emod_of_nonneg _ (by decide)]; omega
      · rw [Int.fmod_eq_emod_of_nonneg _ (by decide)]; omega
    · rintro σ H2 ⟨rfl, x, v, rfl, h0, h1⟩
      refine ⟨_, rfl, a, rfl, ⟨_, hS⟩, fun D hD => lc_list (K := K) (a := a) (xs := ns.map V.int) (fun i H3 => H3 = upd H2 D (.lst (((ns.take i).map fun n => if n < 0 then -n else n).map V.int))) (by simp) (fun i H3 _ e => ?_) (fun i y H3 hi e => ?_) (fun H3 e => ?_)⟩
      · rw [e]
        exact sqL_mono (Ex.new hD) hS
      · obtain ⟨z, rfl, hz⟩ := item hi
        refine ⟨rfl, _, rfl, z, rfl, _, by rw [e]; exact upd_same, ?_, ?_⟩
        · have := lt_of_get hz
          rw [sizeLine_eq]
          simp
          omega
        · rw [e, upd_upd, take_succ' hz]
          simp
      · rw [e]
        refine ⟨_, rfl, _, _, rfl, rfl, by rw [sizeLine_eq]; simp, fun p hp => ?_⟩
        have npD : p ≠ D := fun z => by rw [z, upd_same] at hp; cases hp
        have hpH : H2 p = none := by rw [upd_ne npD] at hp; exact hp
        refine k p D _ ((Ex.new hD).trans (Ex.new hp)) hpH hD ⟨npD, _, _, upd_same, by rw [upd_ne npD.symm, upd_same], ?_, by omega, by omega, ?_⟩
        · intro n hn
          obtain ⟨m, _, rfl⟩ := List.mem_map.mp hn
          split <;> omega
        · simp
          omega

abbrev s_law_draw : Stmt := top 18
theorem sc_law_draw : FnScope ["state", "many", "cells", "value", "mixed"] ["state", "many"] (defScope s_law_draw) := ⟨rfl, rfl, rfl, by decide +kernel, rfl, by decide +kernel, by decide +kernel⟩
theorem ifT {c : Bool} {A B : Prop} (hc : c = true) (h : A) : if c = true then A else B := by
  rw [if_pos hc]
  exact h
theorem ifF {c : Bool} {A B : Prop} (hc : c = false) (h : B) : if c = true then A else B := by
  rw [hc, if_neg Bool.false_ne_true]
  exact h
theorem divW_of {i j : Int} (h0 : 0 < j) (h1 : j < 2 ^ 64) : CDivW i j := wide_div h0 (b := 64) (by omega) (by decide) (by decide)
theorem ok_draw {f : Addr} {fd : FuncData} (F : Fun K "_law_draw" "_law_draw" s_law_draw f fd) (T : Txt K mg) : FnOk P w K mg base CX0 2 f fd ["state", "many"] (spDraw P K mg) := by
  refine F.ok sc_law_draw (fun vs H Q E h => ?_) (fun cdv A outer s H vs Q E hr h => ?_)
  · obtain ⟨s, c, G, xs, Q', R', gh, j, gs, da, ⟨m, rfl, _⟩, _⟩ := h
    exact dvAll_length da
  · obtain ⟨s, c, G, xs, Q', R', gh, ⟨nsc, ns, x, h1, h2, hpos, hx0, hx1, hlen⟩, gs, da, ⟨m, rfl, hm0, hm1, hq'⟩, hq, hxx⟩ := h
    have evs : vs = [.ref s, .int m] := by
      cases da with
      | cons a b =>
        cases b with
        | cons a' b' =>
          cases b'
          cases a'
          have e : _ = V.ref s := a
          rw [e]
    subst evs
    refine ⟨_, (pss_cons (ps_set (i := 2) sc_law_draw.nd rfl (Or.inl rfl) (pe_ix ix_list (pv 0) pe_int (fun _ _ => rfl)))
      (pss_cons (ps_while PassesOwn.never (PW.pt (pw_and (pt_cmpR op_gt (pe_callB call_len_seq (by rfl) T.n_len (by decide +kernel) (pa_cons (pv 2) pa_nil)) pe_int (nomark _)) (pw_and1 (pt_cmpR op_eq (pe_ix ix_list (pv 2) pe_int (fun _ _ => rfl)) pe_int (nomark _)))))
        (pss_one (ps_expr (pe_bm PySem.F.plainAttrs_list PySem.F.slot_list_pop PySem.F.type_list_pop mt_popAt (pv 2) (pa_cons pe_int pa_nil)))))
      (pss_cons (ps_if (pt_cmpR op_gt (pe_callB call_len_seq (by rfl) T.n_len (by decide +kernel) (pa_cons (pv 2) pa_nil)) pe_int (nomark _))
        (pss_cons (ps_set (i := 3) sc_law_draw.nd rfl (Or.inl rfl) (pe_ix ix_list (pv 2) pe_int (fun _ _ => rfl)))
        (pss_cons (ps_asg (pe_op op_fdivW (pv 3) (pv 1)) (pg_sub (pv 2) pe_int set_list))
        (pss_one (ps_ret (pe_op op_modN (pe_callTy call_int1 (by rfl) T.n_int (by decide +kernel) (pa_cons (pv 3) pa_nil)) (pv 1))))))
        pss_nil)
      (pss_cons (ps_set (i := 4) sc_law_draw.nd rfl (Or.inl rfl) (pe_op op_modN (pe_callTy call_int1 (by rfl) T.n_int (by decide +kernel) (pa_cons (pe_op op_add (pe_op op_mul (pe_ix ix_list (pv 0) pe_int (fun _ _ => rfl)) pe_int) pe_int) pa_nil)) pe_int))
      (pss_cons (ps_asg (pv 4) (pg_sub (pv 0) pe_int set_list))
      (pss_one (ps_ret (pe_op op_modN (pe_callTy call_int1 (by rfl) T.n_int (by decide +kernel) (pa_cons (pe_op op_fdivW (pv 4) pe_int) pa_nil)) (pv 1))))))))), ?_⟩
    -- the end: a result r, what stands at s and c changed
    have fin : ∀ (r : Int) (H' : Hp) (ns' : List Int) (x' : Int), 0 ≤ r → r < m → ExS [s, c] H H' → H' s = some (.lst [.ref c, .int x']) → H' c = some (.lst (ns'.map V.int)) → (∀ n, n ∈ ns' → 0 ≤ n) → 0 ≤ x' → x' < 2147483648 → ns'.length ≤ 63 → Q (.int r) H' :=
      fun r H' ns' x' r0 r1 e e1 e2 p0 p1 p2 p3 => hq _ _ G H' (hq' r r0 r1) ⟨.refl _, fun b o hb => e b o (gh b o hb) (fun hm => by rw [gs b hm] at hb; cases hb), e, fun b z1 z2 => absurd z2 z1, gs⟩ ⟨nsc, ns', x', e1, e2, p0, p1, p2, p3⟩ (.int r)
    have mS : ∀ {b : Addr}, b ∉ [s, c] → b ≠ s ∧ b ≠ c := fun {b} n => by
      simp only [List.mem_cons, List.not_mem_nil, or_false, not_or] at n
      exact n
    refine ⟨_, rfl, s, _, _, _, rfl, rfl, SqL.of h1, atI_nat (j := 0) rfl, ?_⟩
    -- while
    refine ⟨fun k σ H' => ∃ ms : List Int, k = ms.length ∧ σ = [some (.ref s), some (.int m), some (.ref c), none, none] ∧ ExS [s, c] H H' ∧ H' s = some (.lst [.ref c, .int x]) ∧ H' c = some (.lst (ms.map V.int)) ∧ (∀ n, n ∈ ms → 0 ≤ n) ∧ ms.length ≤ 63,
      ⟨_, ns, rfl, rfl, .refl _ _, h1, h2, hpos, hlen⟩, ?_⟩
    rintro k σ H' ⟨ms, rfl, rfl, e0, e1, e2, hp, hl⟩
    have gr : ∀ y : Int, 0 ≤ y.fmod m ∧ y.fmod m < m := fun y => by
      rw [Int.fmod_eq_emod_of_nonneg _ (by omega)]
      exact ⟨Int.emod_nonneg _ (by omega), Int.emod_lt_of_pos _ hm0⟩
    have len0 : ∀ (l : List Int), ((l.map V.int).length : Int) = (l.length : Int) := fun l => by rw [List.length_map]
    cases ms with
    | nil =>
      refine ⟨_, rfl, _, _, rfl, .inl (SqL.of e2), _, _, rfl, rfl, _, rfl, ?_⟩
      refine ifF (by simp) ?_
      refine ifF (by simp) ?_
      refine ⟨_, rfl, _, _, rfl, .inl (SqL.of e2), _, _, rfl, rfl, _, rfl, ?_⟩
      refine ifF (by simp) ?_
      refine ⟨_, rfl, s, _, _, _, rfl, rfl, SqL.of e1, atI_nat (j := 1) rfl, _, _, rfl, rfl, .inr ⟨by decide, by decide⟩, _, _, rfl, rfl, .inl ⟨_, rfl, _, _, rfl, rfl, (show (2147483647 : Int) ≠ 0 by decide), ?_⟩⟩
      have g0 : 0 ≤ (x * 48271 + 12345).fmod 2147483647 := by rw [Int.fmod_eq_emod_of_nonneg _ (by decide)]; omega
      have g1 : (x * 48271 + 12345).fmod 2147483647 < 2147483648 := by rw [Int.fmod_eq_emod_of_nonneg _ (by decide)]; omega
      refine ⟨_, rfl, _, rfl, s, _, _, 1, rfl, rfl, e1, rfl, ?_⟩
      refine ⟨_, rfl, _, _, rfl, rfl, ⟨by decide, by decide⟩, .inl ⟨_, rfl, _, rfl, _, _, rfl, rfl, (by show m ≠ 0; omega), ?_⟩⟩
      refine fin _ _ [] _ (gr _).1 (gr _).2 (fun b o hb n => by rw [upd_ne (mS n).1]; exact e0 b o hb n) upd_same (by rw [upd_ne nsc.symm]; exact e2) (by simp) g0 g1 (by simp)
    | cons n rest =>
      have hn : 0 ≤ n := hp n List.mem_cons_self
      refine ⟨_, rfl, _, _, rfl, .inl (SqL.of e2), _, _, rfl, rfl, _, rfl, ?_⟩
      refine ifT (decide_eq_true (by rw [len0, List.length_cons]; omega)) ?_
      refine ⟨_, rfl, c, _, _, _, rfl, rfl, SqL.of e2, atI_nat (j := 0) rfl, rfl, _, rfl, ?_⟩
      by_cases z : n = 0
      · refine ifT (decide_eq_true (by rw [z])) ?_
        refine ⟨fun σ' H'' => ∃ ms : List Int, ms.length < (n :: rest).length ∧ σ' = [some (.ref s), some (.int m), some (.ref c), none, none] ∧ ExS [s, c] H H'' ∧ H'' s = some (.lst [.ref c, .int x]) ∧ H'' c = some (.lst (ms.map V.int)) ∧ (∀ n, n ∈ ms → 0 ≤ n) ∧ ms.length ≤ 63,
          fun σ' H'' ⟨ms, l, q⟩ => ⟨_, l, ms, rfl, q⟩, ?_⟩
        refine ⟨_, rfl, .inl ⟨rfl, _, SqL.of e2⟩, c, _, 0, 0, _, rfl, rfl, e2, by decide, by decide, ?_, rfl, rest, by simp, rfl, fun b o hb n => by rw [upd_ne (mS n).2]; exact e0 b o hb n, by rw [upd_ne nsc]; exact e1, upd_same, fun y hy => hp y (List.mem_cons_of_mem _ hy), by simp at hl; omega⟩
        show seqIndex? 0 (List.map V.int (n :: rest)).length = some 0
        simp [seqIndex?]
      · refine ifF (decide_eq_false (by intro q; cases q; exact z rfl)) ?_
        refine ⟨_, rfl, _, _, rfl, .inl (SqL.of e2), _, _, rfl, rfl, _, rfl, ?_⟩
        refine ifT (decide_eq_true (by rw [len0, List.length_cons]; omega)) ?_
        refine ⟨_, rfl, c, _, _, _, rfl, rfl, SqL.of e2, atI_nat (j := 0) rfl, ?_⟩
        refine ⟨_, rfl, _, rfl, _, _, rfl, rfl, divW_of hm0 hm1, _, rfl, c, _, _, 0, rfl, rfl, e2, by simp [ixN], ?_⟩
        refine ⟨_, rfl, .inl ⟨_, rfl, _, rfl, _, _, rfl, rfl, (by show m ≠ 0; omega), ?_⟩⟩
        refine fin _ _ (n / m :: rest) x (gr _).1 (gr _).2 (fun b o hb n => by rw [upd_ne (mS n).2]; exact e0 b o hb n) (by rw [upd_ne nsc]; exact e1) upd_same (fun y hy => ?_) hx0 hx1 (by simpa using hl)
        rcases List.mem_cons.mp hy with rfl | hy
        · exact Int.ediv_nonneg hn (by omega)
        · exact hp y (List.mem_cons_of_mem _ hy)
end
end K

set_option Elab.async false
set_option linter.all false
set_option maxRecDepth 100000
set_option maxHeartbeats 4000000
namespace K
open PySem L2 DL
/-- the names of the errors, in the law's order -/
def nm : Nat → Str
  | 0 => "TooLarge"
  | 1 => "InvalidBook"
  | 2 => "InvalidCode"
  | 3 => "InvalidLog"
  | 4 => "InvalidLot"
  | 5 => "InvalidPrime"
  | 6 => "InvalidProgram"
  | 7 => "InvalidQuestion"
  | 8 => "InvalidRows"
  | 9 => "InvalidState"
  | 10 => "InvalidSum"
  | 11 => "InvalidTable"
  | 12 => "InvalidText"
  | 13 => "InvalidWrong"
  | _ => "BeliefError"
/-- the classes: fourteen over B, and B -/
structure Errs (P : Program) (K : PySem.W.Frag) (mg : Str → Option Value) (c : Nat → Addr) (B : Addr) : Prop where
  sub : ∀ i, i < 14 → ErrC P K mg (nm i) (c i) (nm i) [B]
  top : ErrC P K mg "BeliefError" B "BeliefError" []
/-- what is raised: an error of that name, with that place -/
def raisedT : DSpec := fun xs _ R => ∃ (k : Nat) (x : PyData), k < 15 ∧ xs = [.d (.int k), .d x] ∧ R (nm k) x
/-- what is caught -/
def caughtT : DSpec := fun xs Q _ => ∃ (k : Nat) (x : PyData), k < 15 ∧ xs = [.d (.int k), .d x] ∧ Q (.d (.tuple [.str (nm k), x, .str (nm k)]))
def aboveT : DSpec := fun xs Q _ => ∃ (k : Nat) (x : PyData), k < 15 ∧ xs = [.d (.int k), .d x] ∧ Q (.d x)
theorem cases15 {k : Nat} (h : k < 15) : k = 0 ∨ k = 1 ∨ k = 2 ∨ k = 3 ∨ k = 4 ∨ k = 5 ∨ k = 6 ∨ k = 7 ∨ k = 8 ∨ k = 9 ∨ k = 10 ∨ k = 11 ∨ k = 12 ∨ k = 13 ∨ k = 14 := by omega
section
variable {P : Program} {w : World} {K : PySem.W.Frag} {mg : Str → Option Value} {base : Heap} {c : Nat → Addr} {B : Addr}
abbrev s_law_raised : Stmt := top 19
theorem sc_law_raised : FnScope ["number", "place"] ["number", "place"] (defScope s_law_raised) := ⟨rfl, rfl, rfl, by decide +kernel, rfl, by decide +kernel, by decide +kernel⟩
/-- one row: if number == j: raise .. -/
theorem row_hit {C : Cn} {ρ : DEnv} {j : Nat} {k : Nat} {x : PyData} {z : Str} {Ca : Addr} {bs : List Addr} {E : XK} {D : DE} {ts : TS} (h0 : ρ[0]? = some (some (.im (.int (k : Int))))) (h1 : ρ[1]? = some (some (.im x))) (U : ErrC C.P C.K C.mg z Ca z bs) (hx : k = j → XOk C E z x)
    (h : k ≠ j → WS C ts ρ D) : WS C (tSeq (tIfS (tTest (tOp (rEqX C.K) (tVar 0) (tC (.int (j : Int))))) (fun _ σ H => tMkE Ca z (tCons (tVar 1) tNil) σ H fun cls d H' => E cls d H') tNext) ts) ρ D := by
  refine ws_seq (ws_if (wt_test (we_op (we_im h0 (we_int (ro_eqXI ⟨_, rfl, fun hb => ?_, fun hb => ?_⟩))))))
  · have e : (k : Int) = (j : Int) := of_decide_eq_true hb
    exact ws_raise U (wa_cons (we_im h1 (wa_nil ⟨x, rfl, hx (by omega)⟩)))
  · have e : ¬ (k : Int) = (j : Int) := of_decide_eq_false hb
    exact ws_next (h (by omega))
theorem ok_raised {f : Addr} {fd : FuncData} (F : Fun K "_law_raised" "_law_raised" s_law_raised f fd) (T : Errs P K mg c B) : FnOk P w K mg base (L2.CX P w) 4 f fd ["number", "place"] (spD P K mg raisedT) := by
  refine F.okX sc_law_raised (fun vs H Q E h => ?_) (fun cdv A outer s H vs Q E hr h => ?_)
  · obtain ⟨G, xs, Q', R', _, _, _, da, ⟨k, x, _, rfl, _⟩, _⟩ := h
    exact dvAll_length da
  · have tk : Takes (cxOf (L2.CX P w) P w K mg base ["number", "place"] "_law_raised" (defScope s_law_raised) f cdv A outer s H E) (fun cls d _ H => E cls d H) := takes_of rfl rfl rfl rfl
    have hl : vs.length ≤ 2 := by
      obtain ⟨G, xs, Q', R', _, _, _, da, ⟨k, x, _, rfl, _⟩, _⟩ := h
      rw [dvAll_length da]
      simp
    refine ⟨_, (pss_cons (ps_if (pt_cmpR (op_eqX (hr.units)) (pv 0) pe_int (nomark _)) (pss_one (ps_raiseE rfl (T.sub 0 (by decide)) (k := 0) (hr.mono (by decide)) tk (pa_cons (pv 1) pa_nil))) pss_nil)
      (pss_cons (ps_if (pt_cmpR (op_eqX (hr.units)) (pv 0) pe_int (nomark _)) (pss_one (ps_raiseE rfl (T.sub 1 (by decide)) (k := 0) (hr.mono (by decide)) tk (pa_cons (pv 1) pa_nil))) pss_nil)
      (pss_cons (ps_if (pt_cmpR (op_eqX (hr.units)) (pv 0) pe_int (nomark _)) (pss_one (ps_raiseE rfl (T.sub 2 (by decide)) (k := 0) (hr.mono (by decide)) tk (pa_cons (pv 1) pa_nil))) pss_nil)
      (pss_cons (ps_if (pt_cmpR (op_eqX (hr.units)) (pv 0) pe_int (nomark _)) (pss_one (ps_raiseE rfl (T.sub 3 (by decide)) (k := 0) (hr.mono (by decide)) tk (pa_cons (pv 1) pa_nil))) pss_nil)
      (pss_cons (ps_if (pt_cmpR (op_eqX (hr.units)) (pv 0) pe_int (nomark _)) (pss_one (ps_raiseE rfl (T.sub 4 (by decide)) (k := 0) (hr.mono (by decide)) tk (pa_cons (pv 1) pa_nil))) pss_nil)
      (pss_cons (ps_if (pt_cmpR (op_eqX (hr.units)) (pv 0) pe_int (nomark _)) (pss_one (ps_raiseE rfl (T.sub 5 (by decide)) (k := 0) (hr.mono (by decide)) tk (pa_cons (pv 1) pa_nil))) pss_nil)
      (pss_cons (ps_if (pt_cmpR (op_eqX (hr.units)) (pv 0) pe_int (nomark _)) (pss_one (ps_raiseE rfl (T.sub 6 (by decide)) (k := 0) (hr.mono (by decide)) tk (pa_cons (pv 1) pa_nil))) pss_nil)
      (pss_cons (ps_if (pt_cmpR (op_eqX (hr.units)) (pv 0) pe_int (nomark _)) (pss_one (ps_raiseE rfl (T.sub 7 (by decide)) (k := 0) (hr.mono (by decide)) tk (pa_cons (pv 1) pa_nil))) pss_nil)
      (pss_cons (ps_if (pt_cmpR (op_eqX (hr.units)) (pv 0) pe_int (nomark _)) (pss_one (ps_raiseE rfl (T.sub 8 (by decide)) (k := 0) (hr.mono (by decide)) tk (pa_cons (pv 1) pa_nil))) pss_nil)
      (pss_cons (ps_if (pt_cmpR (op_eqX (hr.units)) (pv 0) pe_int (nomark _)) (pss_one (ps_raiseE rfl (T.sub 9 (by decide)) (k := 0) (hr.mono (by decide)) tk (pa_cons (pv 1) pa_nil))) pss_nil)
      (pss_cons (ps_if (pt_cmpR (op_eqX (hr.units)) (pv 0) pe_int (nomark _)) (pss_one (ps_raiseE rfl (T.sub 10 (by decide)) (k := 0) (hr.mono (by decide)) tk (pa_cons (pv 1) pa_nil))) pss_nil)
      (pss_cons (ps_if (pt_cmpR (op_eqX (hr.units)) (pv 0) pe_int (nomark _)) (pss_one (ps_raiseE rfl (T.sub 11 (by decide)) (k := 0) (hr.mono (by decide)) tk (pa_cons (pv 1) pa_nil))) pss_nil)
      (pss_cons (ps_if (pt_cmpR (op_eqX (hr.units)) (pv 0) pe_int (nomark _)) (pss_one (ps_raiseE rfl (T.sub 12 (by decide)) (k := 0) (hr.mono (by decide)) tk (pa_cons (pv 1) pa_nil))) pss_nil)
      (pss_cons (ps_if (pt_cmpR (op_eqX (hr.units)) (pv 0) pe_int (nomark _)) (pss_one (ps_raiseE rfl (T.sub 13 (by decide)) (k := 0) (hr.mono (by decide)) tk (pa_cons (pv 1) pa_nil))) pss_nil)
      (pss_one (ps_raiseE rfl T.top (k := 0) (hr.mono (by decide)) tk (pa_cons (pv 1) pa_nil))))))))))))))))), ?_⟩
    refine run_defD h hl ?_
    rintro C rfl rfl rfl hS xs Q' R' ⟨k, x, hk, rfl, hR⟩ _ hx
    have h0 : (entryD [.d (.int (k : Int)), .d x] 2)[0]? = some (some (.im (.int (k : Int)))) := rfl
    have h1 : (entryD [.d (.int (k : Int)), .d x] 2)[1]? = some (some (.im x)) := rfl
    have H : ∀ j, k = j → XOk C E (nm j) x := fun j e => by
      subst e
      exact hx _ _ hR
    refine row_hit (j := 0) h0 h1 (T.sub 0 (by decide)) (H 0) fun n0 => ?_
    refine row_hit (j := 1) h0 h1 (T.sub 1 (by decide)) (H 1) fun n1 => ?_
    refine row_hit (j := 2) h0 h1 (T.sub 2 (by decide)) (H 2) fun n2 => ?_
    refine row_hit (j := 3) h0 h1 (T.sub 3 (by decide)) (H 3) fun n3 => ?_
    refine row_hit (j := 4) h0 h1 (T.sub 4 (by decide)) (H 4) fun n4 => ?_
    refine row_hit (j := 5) h0 h1 (T.sub 5 (by decide)) (H 5) fun n5 => ?_
    refine row_hit (j := 6) h0 h1 (T.sub 6 (by decide)) (H 6) fun n6 => ?_
    refine row_hit (j := 7) h0 h1 (T.sub 7 (by decide)) (H 7) fun n7 => ?_
    refine row_hit (j := 8) h0 h1 (T.sub 8 (by decide)) (H 8) fun n8 => ?_
    refine row_hit (j := 9) h0 h1 (T.sub 9 (by decide)) (H 9) fun n9 => ?_
    refine row_hit (j := 10) h0 h1 (T.sub 10 (by decide)) (H 10) fun n10 => ?_
    refine row_hit (j := 11) h0 h1 (T.sub 11 (by decide)) (H 11) fun n11 => ?_
    refine row_hit (j := 12) h0 h1 (T.sub 12 (by decide)) (H 12) fun n12 => ?_
    refine row_hit (j := 13) h0 h1 (T.sub 13 (by decide)) (H 13) fun n13 => ?_
    have e : k = 14 := by omega
    exact ws_raise T.top (wa_cons (we_im h1 (wa_nil ⟨x, rfl, H 14 e⟩)))
abbrev s_law_first : Stmt := top 20
theorem sc_law_first : FnScope ["number", "place", "e"] ["number", "place"] (defScope s_law_first) := ⟨rfl, rfl, rfl, by decide +kernel, rfl, by decide +kernel, by decide +kernel⟩
theorem ok_law_first {f : Addr} {fd : FuncData} (F : Fun K "_law_first" "_law_first" s_law_first f fd) (T : Errs P K mg c B) (G : OkD P w K mg base (L2.CX P w) "_law_raised" 4 (spD P K mg raisedT)) : FnOk P w K mg base CX0 5 f fd ["number", "place"] (spD P K mg caughtT) := by
  refine F.ok sc_law_first (fun vs H Q E h => ?_) (fun cdv A outer s H vs Q E hr h => ?_)
  · obtain ⟨G, xs, Q', R', _, _, _, da, ⟨k, x, _, rfl, _⟩, _⟩ := h
    exact dvAll_length da
  · have hl : vs.length ≤ 3 := by
      obtain ⟨G, xs, Q', R', _, _, _, da, ⟨k, x, _, rfl, _⟩, _⟩ := h
      rw [dvAll_length da]
      simp
    refine ⟨_, pss_cons (ps_try_cl rfl rfl sc_law_first.nd takes0 (fun W pn xe tk _ => pss_one (ps_expr (pe_callOS G (hr.mono (by decide)) (fun σ => passAt tk σ) (pa_cons (pv 0) (pa_cons (pv 1) pa_nil)))))
      (.named (i := 2) ⟨rfl, by decide, .inl (T.sub 0 (by decide)).gC⟩ rfl rfl (fun a oe cls d pn hz hf => (pss_one (ps_ret (pe_tup (pa_cons pe_str (pa_cons (pe_errF hz hf (pv 2)) (pa_cons (pe_errF hz hf (pv 2)) pa_nil))))))) (.named (i := 2) ⟨rfl, by decide, .inl (T.sub 1 (by decide)).gC⟩ rfl rfl (fun a oe cls d pn hz hf => (pss_one (ps_ret (pe_tup (pa_cons pe_str (pa_cons (pe_errF hz hf (pv 2)) (pa_cons (pe_errF hz hf (pv 2)) pa_nil))))))) (.named (i := 2) ⟨rfl, by decide, .inl (T.sub 2 (by decide)).gC⟩ rfl rfl (fun a oe cls d pn hz hf => (pss_one (ps_ret (pe_tup (pa_cons pe_str (pa_cons (pe_errF hz hf (pv 2)) (pa_cons (pe_errF hz hf (pv 2)) pa_nil))))))) (.named (i := 2) ⟨rfl, by decide, .inl (T.sub 3 (by decide)).gC⟩ rfl rfl (fun a oe cls d pn hz hf => (pss_one (ps_ret (pe_tup (pa_cons pe_str (pa_cons (pe_errF hz hf (pv 2)) (pa_cons (pe_errF hz hf (pv 2)) pa_nil))))))) (.named (i := 2) ⟨rfl, by decide, .inl (T.sub 4 (by decide)).gC⟩ rfl rfl (fun a oe cls d pn hz hf => (pss_one (ps_ret (pe_tup (pa_cons pe_str (pa_cons (pe_errF hz hf (pv 2)) (pa_cons (pe_errF hz hf (pv 2)) pa_nil))))))) (.named (i := 2) ⟨rfl, by decide, .inl (T.sub 5 (by decide)).gC⟩ rfl rfl (fun a oe cls d pn hz hf => (pss_one (ps_ret (pe_tup (pa_cons pe_str (pa_cons (pe_errF hz hf (pv 2)) (pa_cons (pe_errF hz hf (pv 2)) pa_nil))))))) (.named (i := 2) ⟨rfl, by decide, .inl (T.sub 6 (by decide)).gC⟩ rfl rfl (fun a oe cls d pn hz hf => (pss_one (ps_ret (pe_tup (pa_cons pe_str (pa_cons (pe_errF hz hf (pv 2)) (pa_cons (pe_errF hz hf (pv 2)) pa_nil))))))) (.named (i := 2) ⟨rfl, by decide, .inl (T.sub 7 (by decide)).gC⟩ rfl rfl (fun a oe cls d pn hz hf => (pss_one (ps_ret (pe_tup (pa_cons pe_str (pa_cons (pe_errF hz hf (pv 2)) (pa_cons (pe_errF hz hf (pv 2)) pa_nil))))))) (.named (i := 2) ⟨rfl, by decide, .inl (T.sub 8 (by decide)).gC⟩ rfl rfl (fun a oe cls d pn hz hf => (pss_one (ps_ret (pe_tup (pa_cons pe_str (pa_cons (pe_errF hz hf (pv 2)) (pa_cons (pe_errF hz hf (pv 2)) pa_nil))))))) (.named (i := 2) ⟨rfl, by decide, .inl (T.sub 9 (by decide)).gC⟩ rfl rfl (fun a oe cls d pn hz hf => (pss_one (ps_ret (pe_tup (pa_cons pe_str (pa_cons (pe_errF hz hf (pv 2)) (pa_cons (pe_errF hz hf (pv 2)) pa_nil))))))) (.named (i := 2) ⟨rfl, by decide, .inl (T.sub 10 (by decide)).gC⟩ rfl rfl (fun a oe cls d pn hz hf => (pss_one (ps_ret (pe_tup (pa_cons pe_str (pa_cons (pe_errF hz hf (pv 2)) (pa_cons (pe_errF hz hf (pv 2)) pa_nil))))))) (.named (i := 2) ⟨rfl, by decide, .inl (T.sub 11 (by decide)).gC⟩ rfl rfl (fun a oe cls d pn hz hf => (pss_one (ps_ret (pe_tup (pa_cons pe_str (pa_cons (pe_errF hz hf (pv 2)) (pa_cons (pe_errF hz hf (pv 2)) pa_nil))))))) (.named (i := 2) ⟨rfl, by decide, .inl (T.sub 12 (by decide)).gC⟩ rfl rfl (fun a oe cls d pn hz hf => (pss_one (ps_ret (pe_tup (pa_cons pe_str (pa_cons (pe_errF hz hf (pv 2)) (pa_cons (pe_errF hz hf (pv 2)) pa_nil))))))) (.named (i := 2) ⟨rfl, by decide, .inl (T.sub 13 (by decide)).gC⟩ rfl rfl (fun a oe cls d pn hz hf => (pss_one (ps_ret (pe_tup (pa_cons pe_str (pa_cons (pe_errF hz hf (pv 2)) (pa_cons (pe_errF hz hf (pv 2)) pa_nil))))))) (.named (i := 2) ⟨rfl, by decide, .inl T.top.gC⟩ rfl rfl (fun a oe cls d pn hz hf => (pss_one (ps_ret (pe_tup (pa_cons pe_str (pa_cons (pe_errF hz hf (pv 2)) (pa_cons (pe_errF hz hf (pv 2)) pa_nil))))))) .nil)))))))))))))))) (pss_one (ps_ret pe_non)), ?_⟩
    refine run_defD h hl ?_
    rintro C rfl rfl rfl hS xs Q' R' ⟨k, x, hk, rfl, hQ⟩ _ hx
    have h0 : (entryD [.d (.int (k : Int)), .d x] 3)[0]? = some (some (.im (.int (k : Int)))) := rfl
    have h1 : (entryD [.d (.int (k : Int)), .d x] 3)[1]? = some (some (.im x)) := rfl
    refine ws_seq (ws_try (tb := fun W => tDrop (tCallS (spD C.P C.K C.mg raisedT) (L2.WE W) (tCons (tVar 0) (tCons (tVar 1) tNil)))) fun Gs D0 hE hX => ws_drop (we_callDS (wa_cons (we_im h0 (wa_cons (we_im h1 (wa_nil ⟨rfl, fun z y => z = nm k ∧ y = x, ⟨k, x, hk, rfl, rfl, rfl⟩, ?_⟩)))))))
    rintro z y ⟨rfl, rfl⟩
    have suite : ∀ z : Str, z = nm k → ∀ a cls d, WS (C.at Gs) (tRet (tTup (tCons (tC (.str z)) (tCons (tErrF C.P C.K C.mg a cls d "place" (tVar 2)) (tCons (tErrF C.P C.K C.mg a cls d "name" (tVar 2)) tNil))))) ((entryD [.d (.int (k : Int)), .d y] 3).set 2 (some (.ex a cls d (nm k) y))) { nx := fun ρ' => WS C (tRet (tC .non)) (ρ'.set 2 none) { nx := fun _ => Q' (.d .none), rt := Q' }, rt := Q' } := fun z e a cls d => by
      subst e
      exact ws_ret (we_tup (wa_cons (we_str (wa_cons (we_errP (C := C.at Gs) rfl (wa_cons (we_errN (C := C.at Gs) rfl (wa_nil ⟨_, rfl, (show 3 ≤ 100000 by omega), hQ⟩))))))))
    rcases cases15 hk with rfl | rfl | rfl | rfl | rfl | rfl | rfl | rfl | rfl | rfl | rfl | rfl | rfl | rfl | rfl
    · exact wok_hit (z := nm 0) (T.sub 0 (by decide)) (T.sub 0 (by decide)) (by simp) (by exact suite "TooLarge" (by decide +kernel)) hE
    · refine wok_miss (z := nm 1) (T.sub 1 (by decide)) (T.sub 0 (by decide)) (by decide +kernel) (by simpa using ((T.sub 0 (by decide)).ne T.top (by decide +kernel))) ?_
      exact wok_hit (z := nm 1) (T.sub 1 (by decide)) (T.sub 1 (by decide)) (by simp) (by exact suite "InvalidBook" (by decide +kernel)) hE
    · refine wok_miss (z := nm 2) (T.sub 2 (by decide)) (T.sub 0 (by decide)) (by decide +kernel) (by simpa using ((T.sub 0 (by decide)).ne T.top (by decide +kernel))) ?_
      refine wok_miss (z := nm 2) (T.sub 2 (by decide)) (T.sub 1 (by decide)) (by decide +kernel) (by simpa using ((T.sub 1 (by decide)).ne T.top (by decide +kernel))) ?_
      exact wok_hit (z := nm 2) (T.sub 2 (by decide)) (T.sub 2 (by decide)) (by simp) (by exact suite "InvalidCode" (by decide +kernel)) hE
    · refine wok_miss (z := nm 3) (T.sub 3 (by decide)) (T.sub 0 (by decide)) (by decide +kernel) (by simpa using ((T.sub 0 (by decide)).ne T.top (by decide +kernel))) ?_
      refine wok_miss (z := nm 3) (T.sub 3 (by decide)) (T.sub 1 (by decide)) (by decide +kernel) (by simpa using ((T.sub 1 (by decide)).ne T.top (by decide +kernel))) ?_
      refine wok_miss (z := nm 3) (T.sub 3 (by decide)) (T.sub 2 (by decide)) (by decide +kernel) (by simpa using ((T.sub 2 (by decide)).ne T.top (by decide +kernel))) ?_
      exact wok_hit (z := nm 3) (T.sub 3 (by decide)) (T.sub 3 (by decide)) (by simp) (by exact suite "InvalidLog" (by decide +kernel)) hE
    · refine wok_miss (z := nm 4) (T.sub 4 (by decide)) (T.sub 0 (by decide)) (by decide +kernel) (by simpa using ((T.sub 0 (by decide)).ne T.top (by decide +kernel))) ?_
      refine wok_miss (z := nm 4) (T.sub 4 (by decide)) (T.sub 1 (by decide)) (by decide +kernel) (by simpa using ((T.sub 1 (by decide)).ne T.top (by decide +kernel))) ?_
      refine wok_miss (z := nm 4) (T.sub 4 (by decide)) (T.sub 2 (by decide)) (by decide +kernel) (by simpa using ((T.sub 2 (by decide)).ne T.top (by decide +kernel))) ?_
      refine wok_miss (z := nm 4) (T.sub 4 (by decide)) (T.sub 3 (by decide)) (by decide +kernel) (by simpa using ((T.sub 3 (by decide)).ne T.top (by decide +kernel))) ?_
      exact wok_hit (z := nm 4) (T.sub 4 (by decide)) (T.sub 4 (by decide)) (by simp) (by exact suite "InvalidLot" (by decide +kernel)) hE
    · refine wok_miss (z := nm 5) (T.sub 5 (by decide)) (T.sub 0 (by decide)) (by decide +kernel) (by simpa using ((T.sub 0 (by decide)).ne T.top (by decide +kernel))) ?_
      refine wok_miss (z := nm 5) (T.sub 5 (by decide)) (T.sub 1 (by decide)) (by decide +kernel) (by simpa using ((T.sub 1 (by decide)).ne T.top (by decide +kernel))) ?_
      refine wok_miss (z := nm 5) (T.sub 5 (by decide)) (T.sub 2 (by decide)) (by decide +kernel) (by simpa using ((T.sub 2 (by decide)).ne T.top (by decide +kernel))) ?_
      refine wok_miss (z := nm 5) (T.sub 5 (by decide)) (T.sub 3 (by decide)) (by decide +kernel) (by simpa using ((T.sub 3 (by decide)).ne T.top (by decide +kernel))) ?_
      refine wok_miss (z := nm 5) (T.sub 5 (by decide)) (T.sub 4 (by decide)) (by decide +kernel) (by simpa using ((T.sub 4 (by decide)).ne T.top (by decide +kernel))) ?_
      exact wok_hit (z := nm 5) (T.sub 5 (by decide)) (T.sub 5 (by decide)) (by simp) (by exact suite "InvalidPrime" (by decide +kernel)) hE
    · refine wok_miss (z := nm 6) (T.sub 6 (by decide)) (T.sub 0 (by decide)) (by decide +kernel) (by simpa using ((T.sub 0 (by decide)).ne T.top (by decide +kernel))) ?_
      refine wok_miss (z := nm 6) (T.sub 6 (by decide)) (T.sub 1 (by decide)) (by decide +kernel) (by simpa using ((T.sub 1 (by decide)).ne T.top (by decide +kernel))) ?_
      refine wok_miss (z := nm 6) (T.sub 6 (by decide)) (T.sub 2 (by decide)) (by decide +kernel) (by simpa using ((T.sub 2 (by decide)).ne T.top (by decide +kernel))) ?_
      refine wok_miss (z := nm 6) (T.sub 6 (by decide)) (T.sub 3 (by decide)) (by decide +kernel) (by simpa using ((T.sub 3 (by decide)).ne T.top (by decide +kernel))) ?_
      refine wok_miss (z := nm 6) (T.sub 6 (by decide)) (T.sub 4 (by decide)) (by decide +kernel) (by simpa using ((T.sub 4 (by decide)).ne T.top (by decide +kernel))) ?_
      refine wok_miss (z := nm 6) (T.sub 6 (by decide)) (T.sub 5 (by decide)) (by decide +kernel) (by simpa using ((T.sub 5 (by decide)).ne T.top (by decide +kernel))) ?_
      exact wok_hit (z := nm 6) (T.sub 6 (by decide)) (T.sub 6 (by decide)) (by simp) (by exact suite "InvalidProgram" (by decide +kernel)) hE
    · refine wok_miss (z := nm 7) (T.sub 7 (by decide)) (T.sub 0 (by decide)) (by decide +kernel) (by simpa using ((T.sub 0 (by decide)).ne T.top (by decide +kernel))) ?_
      refine wok_miss (z := nm 7) (T.sub 7 (by decide)) (T.sub 1 (by decide)) (by decide +kernel) (by simpa using ((T.sub 1 (by decide)).ne T.top (by decide +kernel))) ?_
      refine wok_miss (z := nm 7) (T.sub 7 (by decide)) (T.sub 2 (by decide)) (by decide +kernel) (by simpa using ((T.sub 2 (by decide)).ne T.top (by decide +kernel))) ?_
      refine wok_miss (z := nm 7) (T.sub 7 (by decide)) (T.sub 3 (by decide)) (by decide +kernel) (by simpa using ((T.sub 3 (by decide)).ne T.top (by decide +kernel))) ?_
      refine wok_miss (z := nm 7) (T.sub 7 (by decide)) (T.sub 4 (by decide)) (by decide +kernel) (by simpa using ((T.sub 4 (by decide)).ne T.top (by decide +kernel))) ?_
      refine wok_miss (z := nm 7) (T.sub 7 (by decide)) (T.sub 5 (by decide)) (by decide +kernel) (by simpa using ((T.sub 5 (by decide)).ne T.top (by decide +kernel))) ?_
      refine wok_miss (z := nm 7) (T.sub 7 (by decide)) (T.sub 6 (by decide)) (by decide +kernel) (by simpa using ((T.sub 6 (by decide)).ne T.top (by decide +kernel))) ?_
      exact wok_hit (z := nm 7) (T.sub 7 (by decide)) (T.sub 7 (by decide)) (by simp) (by exact suite "InvalidQuestion" (by decide +kernel)) hE
    · refine wok_miss (z := nm 8) (T.sub 8 (by decide)) (T.sub 0 (by decide)) (by decide +kernel) (by simpa using ((T.sub 0 (by decide)).ne T.top (by decide +kernel))) ?_
      refine wok_miss (z := nm 8) (T.sub 8 (by decide)) (T.sub 1 (by decide)) (by decide +kernel) (by simpa using ((T.sub 1 (by decide)).ne T.top (by decide +kernel))) ?_
      refine wok_miss (z := nm 8) (T.sub 8 (by decide)) (T.sub 2 (by decide)) (by decide +kernel) (by simpa using ((T.sub 2 (by decide)).ne T.top (by decide +kernel))) ?_
      refine wok_miss (z := nm 8) (T.sub 8 (by decide)) (T.sub 3 (by decide)) (by decide +kernel) (by simpa using ((T.sub 3 (by decide)).ne T.top (by decide +kernel))) ?_
      refine wok_miss (z := nm 8) (T.sub 8 (by decide)) (T.sub 4 (by decide)) (by decide +kernel) (by simpa using ((T.sub 4 (by decide)).ne T.top (by decide +kernel))) ?_
      refine wok_miss (z := nm 8) (T.sub 8 (by decide)) (T.sub 5 (by decide)) (by decide +kernel) (by simpa using ((T.sub 5 (by decide)).ne T.top (by decide +kernel))) ?_
      refine wok_miss (z := nm 8) (T.sub 8 (by decide)) (T.sub 6 (by decide)) (by decide +kernel) (by simpa using ((T.sub 6 (by decide)).ne T.top (by decide +kernel))) ?_
      refine wok_miss (z := nm 8) (T.sub 8 (by decide)) (T.sub 7 (by decide)) (by decide +kernel) (by simpa using ((T.sub 7 (by decide)).ne T.top (by decide +kernel))) ?_
      exact wok_hit (z := nm 8) (T.sub 8 (by decide)) (T.sub 8 (by decide)) (by simp) (by exact suite "InvalidRows" (by decide +kernel)) hE
    · refine wok_miss (z := nm 9) (T.sub 9 (by decide)) (T.sub 0 (by decide)) (by decide +kernel) (by simpa using ((T.sub 0 (by decide)).ne T.top (by decide +kernel))) ?_
      refine wok_miss (z := nm 9) (T.sub 9 (by decide)) (T.sub 1 (by decide)) (by decide +kernel) (by simpa using ((T.sub 1 (by decide)).ne T.top (by decide +kernel))) ?_
      refine wok_miss (z := nm 9) (T.sub 9 (by decide)) (T.sub 2 (by decide)) (by decide +kernel) (by simpa using ((T.sub 2 (by decide)).ne T.top (by decide +kernel))) ?_
      refine wok_miss (z := nm 9) (T.sub 9 (by decide)) (T.sub 3 (by decide)) (by decide +kernel) (by simpa using ((T.sub 3 (by decide)).ne T.top (by decide +kernel))) ?_
      refine wok_miss (z := nm 9) (T.sub 9 (by decide)) (T.sub 4 (by decide)) (by decide +kernel) (by simpa using ((T.sub 4 (by decide)).ne T.top (by decide +kernel))) ?_
      refine wok_miss (z := nm 9) (T.sub 9 (by decide)) (T.sub 5 (by decide)) (by decide +kernel) (by simpa using ((T.sub 5 (by decide)).ne T.top (by decide +kernel))) ?_
      refine wok_miss (z := nm 9) (T.sub 9 (by decide)) (T.sub 6 (by decide)) (by decide +kernel) (by simpa using ((T.sub 6 (by decide)).ne T.top (by decide +kernel))) ?_
      refine wok_miss (z := nm 9) (T.sub 9 (by decide)) (T.sub 7 (by decide)) (by decide +kernel) (by simpa using ((T.sub 7 (by decide)).ne T.top (by decide +kernel))) ?_
      refine wok_miss (z := nm 9) (T.sub 9 (by decide)) (T.sub 8 (by decide)) (by decide +kernel) (by simpa using ((T.sub 8 (by decide)).ne T.top (by decide +kernel))) ?_
      exact wok_hit (z := nm 9) (T.sub 9 (by decide)) (T.sub 9 (by decide)) (by simp) (by exact suite "InvalidState" (by decide +kernel)) hE
    · refine wok_miss (z := nm 10) (T.sub 10 (by decide)) (T.sub 0 (by decide)) (by decide +kernel) (by simpa using ((T.sub 0 (by decide)).ne T.top (by decide +kernel))) ?_
      refine wok_miss (z := nm 10) (T.sub 10 (by decide)) (T.sub 1 (by decide)) (by decide +kernel) (by simpa using ((T.sub 1 (by decide)).ne T.top (by decide +kernel))) ?_
      refine wok_miss (z := nm 10) (T.sub 10 (by decide)) (T.sub 2 (by decide)) (by decide +kernel) (by simpa using ((T.sub 2 (by decide)).ne T.top (by decide +kernel))) ?_
      refine wok_miss (z := nm 10) (T.sub 10 (by decide)) (T.sub 3 (by decide)) (by decide +kernel) (by simpa using ((T.sub 3 (by decide)).ne T.top (by decide +kernel))) ?_
      refine wok_miss (z := nm 10) (T.sub 10 (by decide)) (T.sub 4 (by decide)) (by decide +kernel) (by simpa using ((T.sub 4 (by decide)).ne T.top (by decide +kernel))) ?_
      refine wok_miss (z := nm 10) (T.sub 10 (by decide)) (T.sub 5 (by decide)) (by decide +kernel) (by simpa using ((T.sub 5 (by decide)).ne T.top (by decide +kernel))) ?_
      refine wok_miss (z := nm 10) (T.sub 10 (by decide)) (T.sub 6 (by decide)) (by decide +kernel) (by simpa using ((T.sub 6 (by decide)).ne T.top (by decide +kernel))) ?_
      refine wok_miss (z := nm 10) (T.sub 10 (by decide)) (T.sub 7 (by decide)) (by decide +kernel) (by simpa using ((T.sub 7 (by decide)).ne T.top (by decide +kernel))) ?_
      refine wok_miss (z := nm 10) (T.sub 10 (by decide)) (T.sub 8 (by decide)) (by decide +kernel) (by simpa using ((T.sub 8 (by decide)).ne T.top (by decide +kernel))) ?_
      refine wok_miss (z := nm 10) (T.sub 10 (by decide)) (T.sub 9 (by decide)) (by decide +kernel) (by simpa using ((T.sub 9 (by decide)).ne T.top (by decide +kernel))) ?_
      exact wok_hit (z := nm 10) (T.sub 10 (by decide)) (T.sub 10 (by decide)) (by simp) (by exact suite "InvalidSum" (by decide +kernel)) hE
    · refine wok_miss (z := nm 11) (T.sub 11 (by decide)) (T.sub 0 (by decide)) (by decide +kernel) (by simpa using ((T.sub 0 (by decide)).ne T.top (by decide +kernel))) ?_
      refine wok_miss (z := nm 11) (T.sub 11 (by decide)) (T.sub 1 (by decide)) (by decide +kernel) (by simpa using ((T.sub 1 (by decide)).ne T.top (by decide +kernel))) ?_
      refine wok_miss (z := nm 11) (T.sub 11 (by decide)) (T.sub 2 (by decide)) (by decide +kernel) (by simpa using ((T.sub 2 (by decide)).ne T.top (by decide +kernel))) ?_
      refine wok_miss (z := nm 11) (T.sub 11 (by decide)) (T.sub 3 (by decide)) (by decide +kernel) (by simpa using ((T.sub 3 (by decide)).ne T.top (by decide +kernel))) ?_
      refine wok_miss (z := nm 11) (T.sub 11 (by decide)) (T.sub 4 (by decide)) (by decide +kernel) (by simpa using ((T.sub 4 (by decide)).ne T.top (by decide +kernel))) ?_
      refine wok_miss (z := nm 11) (T.sub 11 (by decide)) (T.sub 5 (by decide)) (by decide +kernel) (by simpa using ((T.sub 5 (by decide)).ne T.top (by decide +kernel))) ?_
      refine wok_miss (z := nm 11) (T.sub 11 (by decide)) (T.sub 6 (by decide)) (by decide +kernel) (by simpa using ((T.sub 6 (by decide)).ne T.top (by decide +kernel))) ?_
      refine wok_miss (z := nm 11) (T.sub 11 (by decide)) (T.sub 7 (by decide)) (by decide +kernel) (by simpa using ((T.sub 7 (by decide)).ne T.top (by decide +kernel))) ?_
      refine wok_miss (z := nm 11) (T.sub 11 (by decide)) (T.sub 8 (by decide)) (by decide +kernel) (by simpa using ((T.sub 8 (by decide)).ne T.top (by decide +kernel))) ?_
      refine wok_miss (z := nm 11) (T.sub 11 (by decide)) (T.sub 9 (by decide)) (by decide +kernel) (by simpa using ((T.sub 9 (by decide)).ne T.top (by decide +kernel))) ?_
      refine wok_miss (z := nm 11) (T.sub 11 (by decide)) (T.sub 10 (by decide)) (by decide +kernel) (by simpa using ((T.sub 10 (by decide)).ne T.top (by decide +kernel))) ?_
      exact wok_hit (z := nm 11) (T.sub 11 (by decide)) (T.sub 11 (by decide)) (by simp) (by exact suite "InvalidTable" (by decide +kernel)) hE
    · refine wok_miss (z := nm 12) (T.sub 12 (by decide)) (T.sub 0 (by decide)) (by decide +kernel) (by simpa using ((T.sub 0 (by decide)).ne T.top (by decide +kernel))) ?_
      refine wok_miss (z := nm 12) (T.sub 12 (by decide)) (T.sub 1 (by decide)) (by decide +kernel) (by simpa using ((T.sub 1 (by decide)).ne T.top (by decide +kernel))) ?_
      refine wok_miss (z := nm 12) (T.sub 12 (by decide)) (T.sub 2 (by decide)) (by decide +kernel) (by simpa using ((T.sub 2 (by decide)).ne T.top (by decide +kernel))) ?_
      refine wok_miss (z := nm 12) (T.sub 12 (by decide)) (T.sub 3 (by decide)) (by decide +kernel) (by simpa using ((T.sub 3 (by decide)).ne T.top (by decide +kernel))) ?_
      refine wok_miss (z := nm 12) (T.sub 12 (by decide)) (T.sub 4 (by decide)) (by decide +kernel) (by simpa using ((T.sub 4 (by decide)).ne T.top (by decide +kernel))) ?_
      refine wok_miss (z := nm 12) (T.sub 12 (by decide)) (T.sub 5 (by decide)) (by decide +kernel) (by simpa using ((T.sub 5 (by decide)).ne T.top (by decide +kernel))) ?_
      refine wok_miss (z := nm 12) (T.sub 12 (by decide)) (T.sub 6 (by decide)) (by decide +kernel) (by simpa using ((T.sub 6 (by decide)).ne T.top (by decide +kernel))) ?_
      refine wok_miss (z := nm 12) (T.sub 12 (by decide)) (T.sub 7 (by decide)) (by decide +kernel) (by simpa using ((T.sub 7 (by decide)).ne T.top (by decide +kernel))) ?_
      refine wok_miss (z := nm 12) (T.sub 12 (by decide)) (T.sub 8 (by decide)) (by decide +kernel) (by simpa using ((T.sub 8 (by decide)).ne T.top (by decide +kernel))) ?_
      refine wok_miss (z := nm 12) (T.sub 12 (by decide)) (T.sub 9 (by decide)) (by decide +kernel) (by simpa using ((T.sub 9 (by decide)).ne T.top (by decide +kernel))) ?_
      refine wok_miss (z := nm 12) (T.sub 12 (by decide)) (T.sub 10 (by decide)) (by decide +kernel) (by simpa using ((T.sub 10 (by decide)).ne T.top (by decide +kernel))) ?_
      refine wok_miss (z := nm 12) (T.sub 12 (by decide)) (T.sub 11 (by decide)) (by decide +kernel) (by simpa using ((T.sub 11 (by decide)).ne T.top (by decide +kernel))) ?_
      exact wok_hit (z := nm 12) (T.sub 12 (by decide)) (T.sub 12 (by decide)) (by simp) (by exact suite "InvalidText" (by decide +kernel)) hE
    · refine wok_miss (z := nm 13) (T.sub 13 (by decide)) (T.sub 0 (by decide)) (by decide +kernel) (by simpa using ((T.sub 0 (by decide)).ne T.top (by decide +kernel))) ?_
      refine wok_miss (z := nm 13) (T.sub 13 (by decide)) (T.sub 1 (by decide)) (by decide +kernel) (by simpa using ((T.sub 1 (by decide)).ne T.top (by decide +kernel))) ?_
      refine wok_miss (z := nm 13) (T.sub 13 (by decide)) (T.sub 2 (by decide)) (by decide +kernel) (by simpa using ((T.sub 2 (by decide)).ne T.top (by decide +kernel))) ?_
      refine wok_miss (z := nm 13) (T.sub 13 (by decide)) (T.sub 3 (by decide)) (by decide +kernel) (by simpa using ((T.sub 3 (by decide)).ne T.top (by decide +kernel))) ?_
      refine wok_miss (z := nm 13) (T.sub 13 (by decide)) (T.sub 4 (by decide)) (by decide +kernel) (by simpa using ((T.sub 4 (by decide)).ne T.top (by decide +kernel))) ?_
      refine wok_miss (z := nm 13) (T.sub 13 (by decide)) (T.sub 5 (by decide)) (by decide +kernel) (by simpa using ((T.sub 5 (by decide)).ne T.top (by decide +kernel))) ?_
      refine wok_miss (z := nm 13) (T.sub 13 (by decide)) (T.sub 6 (by decide)) (by decide +kernel) (by simpa using ((T.sub 6 (by decide)).ne T.top (by decide +kernel))) ?_
      refine wok_miss (z := nm 13) (T.sub 13 (by decide)) (T.sub 7 (by decide)) (by decide +kernel) (by simpa using ((T.sub 7 (by decide)).ne T.top (by decide +kernel))) ?_
      refine wok_miss (z := nm 13) (T.sub 13 (by decide)) (T.sub 8 (by decide)) (by decide +kernel) (by simpa using ((T.sub 8 (by decide)).ne T.top (by decide +kernel))) ?_
      refine wok_miss (z := nm 13) (T.sub 13 (by decide)) (T.sub 9 (by decide)) (by decide +kernel) (by simpa using ((T.sub 9 (by decide)).ne T.top (by decide +kernel))) ?_
      refine wok_miss (z := nm 13) (T.sub 13 (by decide)) (T.sub 10 (by decide)) (by decide +kernel) (by simpa using ((T.sub 10 (by decide)).ne T.top (by decide +kernel))) ?_
      refine wok_miss (z := nm 13) (T.sub 13 (by decide)) (T.sub 11 (by decide)) (by decide +kernel) (by simpa using ((T.sub 11 (by decide)).ne T.top (by decide +kernel))) ?_
      refine wok_miss (z := nm 13) (T.sub 13 (by decide)) (T.sub 12 (by decide)) (by decide +kernel) (by simpa using ((T.sub 12 (by decide)).ne T.top (by decide +kernel))) ?_
      exact wok_hit (z := nm 13) (T.sub 13 (by decide)) (T.sub 13 (by decide)) (by simp) (by exact suite "InvalidWrong" (by decide +kernel)) hE
    · refine wok_miss (z := nm 14) T.top (T.sub 0 (by decide)) (by decide +kernel) (by simp) ?_
      refine wok_miss (z := nm 14) T.top (T.sub 1 (by decide)) (by decide +kernel) (by simp) ?_
      refine wok_miss (z := nm 14) T.top (T.sub 2 (by decide)) (by decide +kernel) (by simp) ?_
      refine wok_miss (z := nm 14) T.top (T.sub 3 (by decide)) (by decide +kernel) (by simp) ?_
      refine wok_miss (z := nm 14) T.top (T.sub 4 (by decide)) (by decide +kernel) (by simp) ?_
      refine wok_miss (z := nm 14) T.top (T.sub 5 (by decide)) (by decide +kernel) (by simp) ?_
      refine wok_miss (z := nm 14) T.top (T.sub 6 (by decide)) (by decide +kernel) (by simp) ?_
      refine wok_miss (z := nm 14) T.top (T.sub 7 (by decide)) (by decide +kernel) (by simp) ?_
      refine wok_miss (z := nm 14) T.top (T.sub 8 (by decide)) (by decide +kernel) (by simp) ?_
      refine wok_miss (z := nm 14) T.top (T.sub 9 (by decide)) (by decide +kernel) (by simp) ?_
      refine wok_miss (z := nm 14) T.top (T.sub 10 (by decide)) (by decide +kernel) (by simp) ?_
      refine wok_miss (z := nm 14) T.top (T.sub 11 (by decide)) (by decide +kernel) (by simp) ?_
      refine wok_miss (z := nm 14) T.top (T.sub 12 (by decide)) (by decide +kernel) (by simp) ?_
      refine wok_miss (z := nm 14) T.top (T.sub 13 (by decide)) (by decide +kernel) (by simp) ?_
      exact wok_hit (z := nm 14) T.top T.top (by simp) (by exact suite "BeliefError" (by decide +kernel)) hE
abbrev s_law_last : Stmt := top 21
theorem sc_law_last : FnScope ["number", "place", "e"] ["number", "place"] (defScope s_law_last) := ⟨rfl, rfl, rfl, by decide +kernel, rfl, by decide +kernel, by decide +kernel⟩
theorem ok_law_last {f : Addr} {fd : FuncData} (F : Fun K "_law_last" "_law_last" s_law_last f fd) (T : Errs P K mg c B) (G : OkD P w K mg base (L2.CX P w) "_law_raised" 4 (spD P K mg raisedT)) : FnOk P w K mg base CX0 5 f fd ["number", "place"] (spD P K mg caughtT) := by
  refine F.ok sc_law_last (fun vs H Q E h => ?_) (fun cdv A outer s H vs Q E hr h => ?_)
  · obtain ⟨G, xs, Q', R', _, _, _, da, ⟨k, x, _, rfl, _⟩, _⟩ := h
    exact dvAll_length da
  · have hl : vs.length ≤ 3 := by
      obtain ⟨G, xs, Q', R', _, _, _, da, ⟨k, x, _, rfl, _⟩, _⟩ := h
      rw [dvAll_length da]
      simp
    refine ⟨_, pss_cons (ps_try_cl rfl rfl sc_law_last.nd takes0 (fun W pn xe tk _ => pss_one (ps_expr (pe_callOS G (hr.mono (by decide)) (fun σ => passAt tk σ) (pa_cons (pv 0) (pa_cons (pv 1) pa_nil)))))
      (.named (i := 2) ⟨rfl, by decide, .inl (T.sub 13 (by decide)).gC⟩ rfl rfl (fun a oe cls d pn hz hf => (pss_one (ps_ret (pe_tup (pa_cons pe_str (pa_cons (pe_errF hz hf (pv 2)) (pa_cons (pe_errF hz hf (pv 2)) pa_nil))))))) (.named (i := 2) ⟨rfl, by decide, .inl (T.sub 12 (by decide)).gC⟩ rfl rfl (fun a oe cls d pn hz hf => (pss_one (ps_ret (pe_tup (pa_cons pe_str (pa_cons (pe_errF hz hf (pv 2)) (pa_cons (pe_errF hz hf (pv 2)) pa_nil))))))) (.named (i := 2) ⟨rfl, by decide, .inl (T.sub 11 (by decide)).gC⟩ rfl rfl (fun a oe cls d pn hz hf => (pss_one (ps_ret (pe_tup (pa_cons pe_str (pa_cons (pe_errF hz hf (pv 2)) (pa_cons (pe_errF hz hf (pv 2)) pa_nil))))))) (.named (i := 2) ⟨rfl, by decide, .inl (T.sub 10 (by decide)).gC⟩ rfl rfl (fun a oe cls d pn hz hf => (pss_one (ps_ret (pe_tup (pa_cons pe_str (pa_cons (pe_errF hz hf (pv 2)) (pa_cons (pe_errF hz hf (pv 2)) pa_nil))))))) (.named (i := 2) ⟨rfl, by decide, .inl (T.sub 9 (by decide)).gC⟩ rfl rfl (fun a oe cls d pn hz hf => (pss_one (ps_ret (pe_tup (pa_cons pe_str (pa_cons (pe_errF hz hf (pv 2)) (pa_cons (pe_errF hz hf (pv 2)) pa_nil))))))) (.named (i := 2) ⟨rfl, by decide, .inl (T.sub 8 (by decide)).gC⟩ rfl rfl (fun a oe cls d pn hz hf => (pss_one (ps_ret (pe_tup (pa_cons pe_str (pa_cons (pe_errF hz hf (pv 2)) (pa_cons (pe_errF hz hf (pv 2)) pa_nil))))))) (.named (i := 2) ⟨rfl, by decide, .inl (T.sub 7 (by decide)).gC⟩ rfl rfl (fun a oe cls d pn hz hf => (pss_one (ps_ret (pe_tup (pa_cons pe_str (pa_cons (pe_errF hz hf (pv 2)) (pa_cons (pe_errF hz hf (pv 2)) pa_nil))))))) (.named (i := 2) ⟨rfl, by decide, .inl (T.sub 6 (by decide)).gC⟩ rfl rfl (fun a oe cls d pn hz hf => (pss_one (ps_ret (pe_tup (pa_cons pe_str (pa_cons (pe_errF hz hf (pv 2)) (pa_cons (pe_errF hz hf (pv 2)) pa_nil))))))) (.named (i := 2) ⟨rfl, by decide, .inl (T.sub 5 (by decide)).gC⟩ rfl rfl (fun a oe cls d pn hz hf => (pss_one (ps_ret (pe_tup (pa_cons pe_str (pa_cons (pe_errF hz hf (pv 2)) (pa_cons (pe_errF hz hf (pv 2)) pa_nil))))))) (.named (i := 2) ⟨rfl, by decide, .inl (T.sub 4 (by decide)).gC⟩ rfl rfl (fun a oe cls d pn hz hf => (pss_one (ps_ret (pe_tup (pa_cons pe_str (pa_cons (pe_errF hz hf (pv 2)) (pa_cons (pe_errF hz hf (pv 2)) pa_nil))))))) (.named (i := 2) ⟨rfl, by decide, .inl (T.sub 3 (by decide)).gC⟩ rfl rfl (fun a oe cls d pn hz hf => (pss_one (ps_ret (pe_tup (pa_cons pe_str (pa_cons (pe_errF hz hf (pv 2)) (pa_cons (pe_errF hz hf (pv 2)) pa_nil))))))) (.named (i := 2) ⟨rfl, by decide, .inl (T.sub 2 (by decide)).gC⟩ rfl rfl (fun a oe cls d pn hz hf => (pss_one (ps_ret (pe_tup (pa_cons pe_str (pa_cons (pe_errF hz hf (pv 2)) (pa_cons (pe_errF hz hf (pv 2)) pa_nil))))))) (.named (i := 2) ⟨rfl, by decide, .inl (T.sub 1 (by decide)).gC⟩ rfl rfl (fun a oe cls d pn hz hf => (pss_one (ps_ret (pe_tup (pa_cons pe_str (pa_cons (pe_errF hz hf (pv 2)) (pa_cons (pe_errF hz hf (pv 2)) pa_nil))))))) (.named (i := 2) ⟨rfl, by decide, .inl (T.sub 0 (by decide)).gC⟩ rfl rfl (fun a oe cls d pn hz hf => (pss_one (ps_ret (pe_tup (pa_cons pe_str (pa_cons (pe_errF hz hf (pv 2)) (pa_cons (pe_errF hz hf (pv 2)) pa_nil))))))) (.named (i := 2) ⟨rfl, by decide, .inl T.top.gC⟩ rfl rfl (fun a oe cls d pn hz hf => (pss_one (ps_ret (pe_tup (pa_cons pe_str (pa_cons (pe_errF hz hf (pv 2)) (pa_cons (pe_errF hz hf (pv 2)) pa_nil))))))) .nil)))))))))))))))) (pss_one (ps_ret pe_non)), ?_⟩
    refine run_defD h hl ?_
    rintro C rfl rfl rfl hS xs Q' R' ⟨k, x, hk, rfl, hQ⟩ _ hx
    have h0 : (entryD [.d (.int (k : Int)), .d x] 3)[0]? = some (some (.im (.int (k : Int)))) := rfl
    have h1 : (entryD [.d (.int (k : Int)), .d x] 3)[1]? = some (some (.im x)) := rfl
    refine ws_seq (ws_try (tb := fun W => tDrop (tCallS (spD C.P C.K C.mg raisedT) (L2.WE W) (tCons (tVar 0) (tCons (tVar 1) tNil)))) fun Gs D0 hE hX => ws_drop (we_callDS (wa_cons (we_im h0 (wa_cons (we_im h1 (wa_nil ⟨rfl, fun z y => z = nm k ∧ y = x, ⟨k, x, hk, rfl, rfl, rfl⟩, ?_⟩)))))))
    rintro z y ⟨rfl, rfl⟩
    have suite : ∀ z : Str, z = nm k → ∀ a cls d, WS (C.at Gs) (tRet (tTup (tCons (tC (.str z)) (tCons (tErrF C.P C.K C.mg a cls d "place" (tVar 2)) (tCons (tErrF C.P C.K C.mg a cls d "name" (tVar 2)) tNil))))) ((entryD [.d (.int (k : Int)), .d y] 3).set 2 (some (.ex a cls d (nm k) y))) { nx := fun ρ' => WS C (tRet (tC .non)) (ρ'.set 2 none) { nx := fun _ => Q' (.d .none), rt := Q' }, rt := Q' } := fun z e a cls d => by
      subst e
      exact ws_ret (we_tup (wa_cons (we_str (wa_cons (we_errP (C := C.at Gs) rfl (wa_cons (we_errN (C := C.at Gs) rfl (wa_nil ⟨_, rfl, (show 3 ≤ 100000 by omega), hQ⟩))))))))
    rcases cases15 hk with rfl | rfl | rfl | rfl | rfl | rfl | rfl | rfl | rfl | rfl | rfl | rfl | rfl | rfl | rfl
    · refine wok_miss (z := nm 0) (T.sub 0 (by decide)) (T.sub 13 (by decide)) (by decide +kernel) (by simpa using ((T.sub 13 (by decide)).ne T.top (by decide +kernel))) ?_
      refine wok_miss (z := nm 0) (T.sub 0 (by decide)) (T.sub 12 (by decide)) (by decide +kernel) (by simpa using ((T.sub 12 (by decide)).ne T.top (by decide +kernel))) ?_
      refine wok_miss (z := nm 0) (T.sub 0 (by decide)) (T.sub 11 (by decide)) (by decide +kernel) (by simpa using ((T.sub 11 (by decide)).ne T.top (by decide +kernel))) ?_
      refine wok_miss (z := nm 0) (T.sub 0 (by decide)) (T.sub 10 (by decide)) (by decide +kernel) (by simpa using ((T.sub 10 (by decide)).ne T.top (by decide +kernel))) ?_
      refine wok_miss (z := nm 0) (T.sub 0 (by decide)) (T.sub 9 (by decide)) (by decide +kernel) (by simpa using ((T.sub 9 (by decide)).ne T.top (by decide +kernel))) ?_
      refine wok_miss (z := nm 0) (T.sub 0 (by decide)) (T.sub 8 (by decide)) (by decide +kernel) (by simpa using ((T.sub 8 (by decide)).ne T.top (by decide +kernel))) ?_
      refine wok_miss (z := nm 0) (T.sub 0 (by decide)) (T.sub 7 (by decide)) (by decide +kernel) (by simpa using ((T.sub 7 (by decide)).ne T.top (by decide +kernel))) ?_
      refine wok_miss (z := nm 0) (T.sub 0 (by decide)) (T.sub 6 (by decide)) (by decide +kernel) (by simpa using ((T.sub 6 (by decide)).ne T.top (by decide +kernel))) ?_
      refine wok_miss (z := nm 0) (T.sub 0 (by decide)) (T.sub 5 (by decide)) (by decide +kernel) (by simpa using ((T.sub 5 (by decide)).ne T.top (by decide +kernel))) ?_
      refine wok_miss (z := nm 0) (T.sub 0 (by decide)) (T.sub 4 (by decide)) (by decide +kernel) (by simpa using ((T.sub 4 (by decide)).ne T.top (by decide +kernel))) ?_
      refine wok_miss (z := nm 0) (T.sub 0 (by decide)) (T.sub 3 (by decide)) (by decide +kernel) (by simpa using ((T.sub 3 (by decide)).ne T.top (by decide +kernel))) ?_
      refine wok_miss (z := nm 0) (T.sub 0 (by decide)) (T.sub 2 (by decide)) (by decide +kernel) (by simpa using ((T.sub 2 (by decide)).ne T.top (by decide +kernel))) ?_
      refine wok_miss (z := nm 0) (T.sub 0 (by decide)) (T.sub 1 (by decide)) (by decide +kernel) (by simpa using ((T.sub 1 (by decide)).ne T.top (by decide +kernel))) ?_
      exact wok_hit (z := nm 0) (T.sub 0 (by decide)) (T.sub 0 (by decide)) (by simp) (by exact suite "TooLarge" (by decide +kernel)) hE
    · refine wok_miss (z := nm 1) (T.sub 1 (by decide)) (T.sub 13 (by decide)) (by decide +kernel) (by simpa using ((T.sub 13 (by decide)).ne T.top (by decide +kernel))) ?_
      refine wok_miss (z := nm 1) (T.sub 1 (by decide)) (T.sub 12 (by decide)) (by decide +kernel) (by simpa using ((T.sub 12 (by decide)).ne T.top (by decide +kernel))) ?_
      refine wok_miss (z := nm 1) (T.sub 1 (by decide)) (T.sub 11 (by decide)) (by decide +kernel) (by simpa using ((T.sub 11 (by decide)).ne T.top (by decide +kernel))) ?_
      refine wok_miss (z := nm 1) (T.sub 1 (by decide)) (T.sub 10 (by decide)) (by decide +kernel) (by simpa using ((T.sub 10 (by decide)).ne T.top (by decide +kernel))) ?_
      refine wok_miss (z := nm 1) (T.sub 1 (by decide)) (T.sub 9 (by decide)) (by decide +kernel) (by simpa using ((T.sub 9 (by decide)).ne T.top (by decide +kernel))) ?_
      refine wok_miss (z := nm 1) (T.sub 1 (by decide)) (T.sub 8 (by decide)) (by decide +kernel) (by simpa using ((T.sub 8 (by decide)).ne T.top (by decide +kernel))) ?_
      refine wok_miss (z := nm 1) (T.sub 1 (by decide)) (T.sub 7 (by decide)) (by decide +kernel) (by simpa using ((T.sub 7 (by decide)).ne T.top (by decide +kernel))) ?_
      refine wok_miss (z := nm 1) (T.sub 1 (by decide)) (T.sub 6 (by decide)) (by decide +kernel) (by simpa using ((T.sub 6 (by decide)).ne T.top (by decide +kernel))) ?_
      refine wok_miss (z := nm 1) (T.sub 1 (by decide)) (T.sub 5 (by decide)) (by decide +kernel) (by simpa using ((T.sub 5 (by decide)).ne T.top (by decide +kernel))) ?_
      refine wok_miss (z := nm 1) (T.sub 1 (by decide)) (T.sub 4 (by decide)) (by decide +kernel) (by simpa using ((T.sub 4 (by decide)).ne T.top (by decide +kernel))) ?_
      refine wok_miss (z := nm 1) (T.sub 1 (by decide)) (T.sub 3 (by decide)) (by decide +kernel) (by simpa using ((T.sub 3 (by decide)).ne T.top (by decide +kernel))) ?_
      refine wok_miss (z := nm 1) (T.sub 1 (by decide)) (T.sub 2 (by decide)) (by decide +kernel) (by simpa using ((T.sub 2 (by decide)).ne T.top (by decide +kernel))) ?_
      exact wok_hit (z := nm 1) (T.sub 1 (by decide)) (T.sub 1 (by decide)) (by simp) (by exact suite "InvalidBook" (by decide +kernel)) hE
    · refine wok_miss (z := nm 2) (T.sub 2 (by decide)) (T.sub 13 (by decide)) (by decide +kernel) (by simpa using ((T.sub 13 (by decide)).ne T.top (by decide +kernel))) ?_
      refine wok_miss (z := nm 2) (T.sub 2 (by decide)) (T.sub 12 (by decide)) (by decide +kernel) (by simpa using ((T.sub 12 (by decide)).ne T.top (by decide +kernel))) ?_
      refine wok_miss (z := nm 2) (T.sub 2 (by decide)) (T.sub 11 (by decide)) (by decide +kernel) (by simpa using ((T.sub 11 (by decide)).ne T.top (by decide +kernel))) ?_
      refine wok_miss (z := nm 2) (T.sub 2 (by decide)) (T.sub 10 (by decide)) (by decide +kernel) (by simpa using ((T.sub 10 (by decide)).ne T.top (by decide +kernel))) ?_
      refine wok_miss (z := nm 2) (T.sub 2 (by decide)) (T.sub 9 (by decide)) (by decide +kernel) (by simpa using ((T.sub 9 (by decide)).ne T.top (by decide +kernel))) ?_
      refine wok_miss (z := nm 2) (T.sub 2 (by decide)) (T.sub 8 (by decide)) (by decide +kernel) (by simpa using ((T.sub 8 (by decide)).ne T.top (by decide +kernel))) ?_
      refine wok_miss (z := nm 2) (T.sub 2 (by decide)) (T.sub 7 (by decide)) (by decide +kernel) (by simpa using ((T.sub 7 (by decide)).ne T.top (by decide +kernel))) ?_
      refine wok_miss (z := nm 2) (T.sub 2 (by decide)) (T.sub 6 (by decide)) (by decide +kernel) (by simpa using ((T.sub 6 (by decide)).ne T.top (by decide +kernel))) ?_
      refine wok_miss (z := nm 2) (T.sub 2 (by decide)) (T.sub 5 (by decide)) (by decide +kernel) (by simpa using ((T.sub 5 (by decide)).ne T.top (by decide +kernel))) ?_
      refine wok_miss (z := nm 2) (T.sub 2 (by decide)) (T.sub 4 (by decide)) (by decide +kernel) (by simpa using ((T.sub 4 (by decide)).ne T.top (by decide +kernel))) ?_
      refine wok_miss (z := nm 2) (T.sub 2 (by decide)) (T.sub 3 (by decide)) (by decide +kernel) (by simpa using ((T.sub 3 (by decide)).ne T.top (by decide +kernel))) ?_
      exact wok_hit (z := nm 2) (T.sub 2 (by decide)) (T.sub 2 (by decide)) (by simp) (by exact suite "InvalidCode" (by decide +kernel)) hE
    · refine wok_miss (z := nm 3) (T.sub 3 (by decide)) (T.sub 13 (by decide)) (by decide +kernel) (by simpa using ((T.sub 13 (by decide)).ne T.top (by decide +kernel))) ?_
      refine wok_miss (z := nm 3) (T.sub 3 (by decide)) (T.sub 12 (by decide)) (by decide +kernel) (by simpa using ((T.sub 12 (by decide)).ne T.top (by decide +kernel))) ?_
      refine wok_miss (z := nm 3) (T.sub 3 (by decide)) (T.sub 11 (by decide)) (by decide +kernel) (by simpa using ((T.sub 11 (by decide)).ne T.top (by decide +kernel))) ?_
      refine wok_miss (z := nm 3) (T.sub 3 (by decide)) (T.sub 10 (by decide)) (by decide +kernel) (by simpa using ((T.sub 10 (by decide)).ne T.top (by decide +kernel))) ?_
      refine wok_miss (z := nm 3) (T.sub 3 (by decide)) (T.sub 9 (by decide)) (by decide +kernel) (by simpa using ((T.sub 9 (by decide)).ne T.top (by decide +kernel))) ?_
      refine wok_miss (z := nm 3) (T.sub 3 (by decide)) (T.sub 8 (by decide)) (by decide +kernel) (by simpa using ((T.sub 8 (by decide)).ne T.top (by decide +kernel))) ?_
      refine wok_miss (z := nm 3) (T.sub 3 (by decide)) (T.sub 7 (by decide)) (by decide +kernel) (by simpa using ((T.sub 7 (by decide)).ne T.top (by decide +kernel))) ?_
      refine wok_miss (z := nm 3) (T.sub 3 (by decide)) (T.sub 6 (by decide)) (by decide +kernel) (by simpa using ((T.sub 6 (by decide)).ne T.top (by decide +kernel))) ?_
      refine wok_miss (z := nm 3) (T.sub 3 (by decide)) (T.sub 5 (by decide)) (by decide +kernel) (by simpa using ((T.sub 5 (by decide)).ne T.top (by decide +kernel))) ?_
      refine wok_miss (z := nm 3) (T.sub 3 (by decide)) (T.sub 4 (by decide)) (by decide +kernel) (by simpa using ((T.sub 4 (by decide)).ne T.top (by decide +kernel))) ?_
      exact wok_hit (z := nm 3) (T.sub 3 (by decide)) (T.sub 3 (by decide)) (by simp) (by exact suite "InvalidLog" (by decide +kernel)) hE
    · refine wok_miss (z := nm 4) (T.sub 4 (by decide)) (T.sub 13 (by decide)) (by decide +kernel) (by simpa using ((T.sub 13 (by decide)).ne T.top (by decide +kernel))) ?_
      refine wok_miss (z := nm 4) (T.sub 4 (by decide)) (T.sub 12 (by decide)) (by decide +kernel) (by simpa using ((T.sub 12 (by decide)).ne T.top (by decide +kernel))) ?_
      refine wok_miss (z := nm 4) (T.sub 4 (by decide)) (T.sub 11 (by decide)) (by decide +kernel) (by simpa using ((T.sub 11 (by decide)).ne T.top (by decide +kernel))) ?_
      refine wok_miss (z := nm 4) (T.sub 4 (by decide)) (T.sub 10 (by decide)) (by decide +kernel) (by simpa using ((T.sub 10 (by decide)).ne T.top (by decide +kernel))) ?_
      refine wok_miss (z := nm 4) (T.sub 4 (by decide)) (T.sub 9 (by decide)) (by decide +kernel) (by simpa using ((T.sub 9 (by decide)).ne T.top (by decide +kernel))) ?_
      refine wok_miss (z := nm 4) (T.sub 4 (by decide)) (T.sub 8 (by decide)) (by decide +kernel) (by simpa using ((T.sub 8 (by decide)).ne T.top (by decide +kernel))) ?_
      refine wok_miss (z := nm 4) (T.sub 4 (by decide)) (T.sub 7 (by decide)) (by decide +kernel) (by simpa using ((T.sub 7 (by decide)).ne T.top (by decide +kernel))) ?_
      refine wok_miss (z := nm 4) (T.sub 4 (by decide)) (T.sub 6 (by decide)) (by decide +kernel) (by simpa using ((T.sub 6 (by decide)).ne T.top (by decide +kernel))) ?_
      refine wok_miss (z := nm 4) (T.sub 4 (by decide)) (T.sub 5 (by decide)) (by decide +kernel) (by simpa using ((T.sub 5 (by decide)).ne T.top (by decide +kernel))) ?_
      exact wok_hit (z := nm 4) (T.sub 4 (by decide)) (T.sub 4 (by decide)) (by simp) (by exact suite "InvalidLot" (by decide +kernel)) hE
    · refine wok_miss (z := nm 5) (T.sub 5 (by decide)) (T.sub 13 (by decide)) (by decide +kernel) (by simpa using ((T.sub 13 (by decide)).ne T.top (by decide +kernel))) ?_
      refine wok_miss (z := nm 5) (T.sub 5 (by decide)) (T.sub 12 (by decide)) (by decide +kernel) (by simpa using ((T.sub 12 (by decide)).ne T.top (by decide +kernel))) ?_
      refine wok_miss (z := nm 5) (T.sub 5 (by decide)) (T.sub 11 (by decide)) (by decide +kernel) (by simpa using ((T.sub 11 (by decide)).ne T.top (by decide +kernel))) ?_
      refine wok_miss (z := nm 5) (T.sub 5 (by decide)) (T.sub 10 (by decide)) (by decide +kernel) (by simpa using ((T.sub 10 (by decide)).ne T.top (by decide +kernel))) ?_
      refine wok_miss (z := nm 5) (T.sub 5 (by decide)) (T.sub 9 (by decide)) (by decide +kernel) (by simpa using ((T.sub 9 (by decide)).ne T.top (by decide +kernel))) ?_
      refine wok_miss (z := nm 5) (T.sub 5 (by decide)) (T.sub 8 (by decide)) (by decide +kernel) (by simpa using ((T.sub 8 (by decide)).ne T.top (by decide +kernel))) ?_
      refine wok_miss (z := nm 5) (T.sub 5 (by decide)) (T.sub 7 (by decide)) (by decide +kernel) (by simpa using ((T.sub 7 (by decide)).ne T.top (by decide +kernel))) ?_
      refine wok_miss (z := nm 5) (T.sub 5 (by decide)) (T.sub 6 (by decide)) (by decide +kernel) (by simpa using ((T.sub 6 (by decide)).ne T.top (by decide +kernel))) ?_
      exact wok_hit (z := nm 5) (T.sub 5 (by decide)) (T.sub 5 (by decide)) (by simp) (by exact suite "InvalidPrime" (by decide +kernel)) hE
    · refine wok_miss (z := nm 6) (T.sub 6 (by decide)) (T.sub 13 (by decide)) (by decide +kernel) (by simpa using ((T.sub 13 (by decide)).ne T.top (by decide +kernel))) ?_
      refine wok_miss (z := nm 6) (T.sub 6 (by decide)) (T.sub 12 (by decide)) (by decide +kernel) (by simpa using ((T.sub 12 (by decide)).ne T.top (by decide +kernel))) ?_
      refine wok_miss (z := nm 6) (T.sub 6 (by decide)) (T.sub 11 (by decide)) (by decide +kernel) (by simpa using ((T.sub 11 (by decide)).ne T.top (by decide +kernel))) ?_
      refine wok_miss (z := nm 6) (T.sub 6 (by decide)) (T.sub 10 (by decide)) (by decide +kernel) (by simpa using ((T.sub 10 (by decide)).ne T.top (by decide +kernel))) ?_
      refine wok_miss (z := nm 6) (T.sub 6 (by decide)) (T.sub 9 (by decide)) (by decide +kernel) (by simpa using ((T.sub 9 (by decide)).ne T.top (by decide +kernel))) ?_
      refine wok_miss (z := nm 6) (T.sub 6 (by decide)) (T.sub 8 (by decide)) (by decide +kernel) (by simpa using ((T.sub 8 (by decide)).ne T.top (by decide +kernel))) ?_
      refine wok_miss (z := nm 6) (T.sub 6 (by decide)) (T.sub 7 (by decide)) (by decide +kernel) (by simpa using ((T.sub 7 (by decide)).ne T.top (by decide +kernel))) ?_
      exact wok_hit (z := nm 6) (T.sub 6 (by decide)) (T.sub 6 (by decide)) (by simp) (by exact suite "InvalidProgram" (by decide +kernel)) hE
    · refine wok_miss (z := nm 7) (T.sub 7 (by decide)) (T.sub 13 (by decide)) (by decide +kernel) (by simpa using ((T.sub 13 (by decide)).ne T.top (by decide +kernel))) ?_
      refine wok_miss (z := nm 7) (T.sub 7 (by decide)) (T.sub 12 (by decide)) (by decide +kernel) (by simpa using ((T.sub 12 (by decide)).ne T.top (by decide +kernel))) ?_
      refine wok_miss (z := nm 7) (T.sub 7 (by decide)) (T.sub 11 (by decide)) (by decide +kernel) (by simpa using ((T.sub 11 (by decide)).ne T.top (by decide +kernel))) ?_
      refine wok_miss (z := nm 7) (T.sub 7 (by decide)) (T.sub 10 (by decide)) (by decide +kernel) (by simpa using ((T.sub 10 (by decide)).ne T.top (by decide +kernel))) ?_
      refine wok_miss (z := nm 7) (T.sub 7 (by decide)) (T.sub 9 (by decide)) (by decide +kernel) (by simpa using ((T.sub 9 (by decide)).ne T.top (by decide +kernel))) ?_
      refine wok_miss (z := nm 7) (T.sub 7 (by decide)) (T.sub 8 (by decide)) (by decide +kernel) (by simpa using ((T.sub 8 (by decide)).ne T.top (by decide +kernel))) ?_
      exact wok_hit (z := nm 7) (T.sub 7 (by decide)) (T.sub 7 (by decide)) (by simp) (by exact suite "InvalidQuestion" (by decide +kernel)) hE
    · refine wok_miss (z := nm 8) (T.sub 8 (by decide)) (T.sub 13 (by decide)) (by decide +kernel) (by simpa using ((T.sub 13 (by decide)).ne T.top (by decide +kernel))) ?_
      refine wok_miss (z := nm 8) (T.sub 8 (by decide)) (T.sub 12 (by decide)) (by decide +kernel) (by simpa using ((T.sub 12 (by decide)).ne T.top (by decide +kernel))) ?_
      refine wok_miss (z := nm 8) (T.sub 8 (by decide)) (T.sub 11 (by decide)) (by decide +kernel) (by simpa using ((T.sub 11 (by decide)).ne T.top (by decide +kernel))) ?_
      refine wok_miss (z := nm 8) (T.sub 8 (by decide)) (T.sub 10 (by decide)) (by decide +kernel) (by simpa using ((T.sub 10 (by decide)).ne T.top (by decide +kernel))) ?_
      refine wok_miss (z := nm 8) (T.sub 8 (by decide)) (T.sub 9 (by decide)) (by decide +kernel) (by simpa using ((T.sub 9 (by decide)).ne T.top (by decide +kernel))) ?_
      exact wok_hit (z := nm 8) (T.sub 8 (by decide)) (T.sub 8 (by decide)) (by simp) (by exact suite "InvalidRows" (by decide +kernel)) hE
    · refine wok_miss (z := nm 9) (T.sub 9 (by decide)) (T.sub 13 (by decide)) (by decide +kernel) (by simpa using ((T.sub 13 (by decide)).ne T.top (by decide +kernel))) ?_
      refine wok_miss (z := nm 9) (T.sub 9 (by decide)) (T.sub 12 (by decide)) (by decide +kernel) (by simpa using ((T.sub 12 (by decide)).ne T.top (by decide +kernel))) ?_
      refine wok_miss (z := nm 9) (T.sub 9 (by decide)) (T.sub 11 (by decide)) (by decide +kernel) (by simpa using ((T.sub 11 (by decide)).ne T.top (by decide +kernel))) ?_
      refine wok_miss (z := nm 9) (T.sub 9 (by decide)) (T.sub 10 (by decide)) (by decide +kernel) (by simpa using ((T.sub 10 (by decide)).ne T.top (by decide +kernel))) ?_
      exact wok_hit (z := nm 9) (T.sub 9 (by decide)) (T.sub 9 (by decide)) (by simp) (by exact suite "InvalidState" (by decide +kernel)) hE
    · refine wok_miss (z := nm 10) (T.sub 10 (by decide)) (T.sub 13 (by decide)) (by decide +kernel) (by simpa using ((T.sub 13 (by decide)).ne T.top (by decide +kernel))) ?_
      refine wok_miss (z := nm 10) (T.sub 10 (by decide)) (T.sub 12 (by decide)) (by decide +kernel) (by simpa using ((T.sub 12 (by decide)).ne T.top (by decide +kernel))) ?_
      refine wok_miss (z := nm 10) (T.sub 10 (by decide)) (T.sub 11 (by decide)) (by decide +kernel) (by simpa using ((T.sub 11 (by decide)).ne T.top (by decide +kernel))) ?_
      exact wok_hit (z := nm 10) (T.sub 10 (by decide)) (T.sub 10 (by decide)) (by simp) (by exact suite "InvalidSum" (by decide +kernel)) hE
    · refine wok_miss (z := nm 11) (T.sub 11 (by decide)) (T.sub 13 (by decide)) (by decide +kernel) (by simpa using ((T.sub 13 (by decide)).ne T.top (by decide +kernel))) ?_
      refine wok_miss (z := nm 11) (T.sub 11 (by decide)) (T.sub 12 (by decide)) (by decide +kernel) (by simpa using ((T.sub 12 (by decide)).ne T.top (by decide +kernel))) ?_
      exact wok_hit (z := nm 11) (T.sub 11 (by decide)) (T.sub 11 (by decide)) (by simp) (by exact suite "InvalidTable" (by decide +kernel)) hE
    · refine wok_miss (z := nm 12) (T.sub 12 (by decide)) (T.sub 13 (by decide)) (by decide +kernel) (by simpa using ((T.sub 13 (by decide)).ne T.top (by decide +kernel))) ?_
      exact wok_hit (z := nm 12) (T.sub 12 (by decide)) (T.sub 12 (by decide)) (by simp) (by exact suite "InvalidText" (by decide +kernel)) hE
    · exact wok_hit (z := nm 13) (T.sub 13 (by decide)) (T.sub 13 (by decide)) (by simp) (by exact suite "InvalidWrong" (by decide +kernel)) hE
    · refine wok_miss (z := nm 14) T.top (T.sub 13 (by decide)) (by decide +kernel) (by simp) ?_
      refine wok_miss (z := nm 14) T.top (T.sub 12 (by decide)) (by decide +kernel) (by simp) ?_
      refine wok_miss (z := nm 14) T.top (T.sub 11 (by decide)) (by decide +kernel) (by simp) ?_
      refine wok_miss (z := nm 14) T.top (T.sub 10 (by decide)) (by decide +kernel) (by simp) ?_
      refine wok_miss (z := nm 14) T.top (T.sub 9 (by decide)) (by decide +kernel) (by simp) ?_
      refine wok_miss (z := nm 14) T.top (T.sub 8 (by decide)) (by decide +kernel) (by simp) ?_
      refine wok_miss (z := nm 14) T.top (T.sub 7 (by decide)) (by decide +kernel) (by simp) ?_
      refine wok_miss (z := nm 14) T.top (T.sub 6 (by decide)) (by decide +kernel) (by simp) ?_
      refine wok_miss (z := nm 14) T.top (T.sub 5 (by decide)) (by decide +kernel) (by simp) ?_
      refine wok_miss (z := nm 14) T.top (T.sub 4 (by decide)) (by decide +kernel) (by simp) ?_
      refine wok_miss (z := nm 14) T.top (T.sub 3 (by decide)) (by decide +kernel) (by simp) ?_
      refine wok_miss (z := nm 14) T.top (T.sub 2 (by decide)) (by decide +kernel) (by simp) ?_
      refine wok_miss (z := nm 14) T.top (T.sub 1 (by decide)) (by decide +kernel) (by simp) ?_
      refine wok_miss (z := nm 14) T.top (T.sub 0 (by decide)) (by decide +kernel) (by simp) ?_
      exact wok_hit (z := nm 14) T.top T.top (by simp) (by exact suite "BeliefError" (by decide +kernel)) hE
abbrev s_law_above : Stmt := top 22
theorem sc_law_above : FnScope ["number", "place", "e"] ["number", "place"] (defScope s_law_above) := ⟨rfl, rfl, rfl, by decide +kernel, rfl, by decide +kernel, by decide +kernel⟩
theorem ok_law_above {f : Addr} {fd : FuncData} (F : Fun K "_law_above" "_law_above" s_law_above f fd) (T : Errs P K mg c B) (G : OkD P w K mg base (L2.CX P w) "_law_raised" 4 (spD P K mg raisedT)) : FnOk P w K mg base CX0 5 f fd ["number", "place"] (spD P K mg aboveT) := by
  refine F.ok sc_law_above (fun vs H Q E h => ?_) (fun cdv A outer s H vs Q E hr h => ?_)
  · obtain ⟨G, xs, Q', R', _, _, _, da, ⟨k, x, _, rfl, _⟩, _⟩ := h
    exact dvAll_length da
  · have hl : vs.length ≤ 3 := by
      obtain ⟨G, xs, Q', R', _, _, _, da, ⟨k, x, _, rfl, _⟩, _⟩ := h
      rw [dvAll_length da]
      simp
    refine ⟨_, pss_cons (ps_try_cl rfl rfl sc_law_above.nd takes0 (fun W pn xe tk _ => pss_one (ps_expr (pe_callOS G (hr.mono (by decide)) (fun σ => passAt tk σ) (pa_cons (pv 0) (pa_cons (pv 1) pa_nil)))))
      (.named (i := 2) ⟨rfl, by decide, .inl T.top.gC⟩ rfl rfl (fun a oe cls d pn hz hf => (pss_one (ps_ret (pe_errF hz hf (pv 2))))) .nil)) (pss_one (ps_ret pe_non)), ?_⟩
    refine run_defD h hl ?_
    rintro C rfl rfl rfl hS xs Q' R' ⟨k, x, hk, rfl, hQ⟩ _ hx
    have h0 : (entryD [.d (.int (k : Int)), .d x] 3)[0]? = some (some (.im (.int (k : Int)))) := rfl
    have h1 : (entryD [.d (.int (k : Int)), .d x] 3)[1]? = some (some (.im x)) := rfl
    refine ws_seq (ws_try (tb := fun W => tDrop (tCallS (spD C.P C.K C.mg raisedT) (L2.WE W) (tCons (tVar 0) (tCons (tVar 1) tNil)))) fun Gs D0 hE hX => ws_drop (we_callDS (wa_cons (we_im h0 (wa_cons (we_im h1 (wa_nil ⟨rfl, fun z y => z = nm k ∧ y = x, ⟨k, x, hk, rfl, rfl, rfl⟩, ?_⟩)))))))
    rintro z y ⟨rfl, rfl⟩
    have suite : ∀ a cls d, WS (C.at Gs) (tRet (tErrF C.P C.K C.mg a cls d "place" (tVar 2))) ((entryD [.d (.int (k : Int)), .d y] 3).set 2 (some (.ex a cls d (nm k) y))) { nx := fun ρ' => WS C (tRet (tC .non)) (ρ'.set 2 none) { nx := fun _ => Q' (.d .none), rt := Q' }, rt := Q' } := fun a cls d => ws_ret (we_errP (C := C.at Gs) rfl hQ)
    by_cases e : k < 14
    · exact wok_hit (T.sub k e) T.top (by simp) (by exact suite) hE
    · have e' : k = 14 := by omega
      subst e'
      exact wok_hit (z := "BeliefError") T.top T.top (by simp) (by exact suite) hE
end
end K

set_option Elab.async false
set_option linter.all false
set_option maxRecDepth 100000
set_option maxHeartbeats 1000000
/-! From what the top has written to the facts of error classes and defs. -/
namespace L2
open PySem PySem.Spec PyProof.Rows
section
variable {prog : Program} {K : PySem.W.Frag} {mg : Str → Option Value} {h : Heap} {z qual : Str} {C f N cc cda B fB : Addr} {q : Str} {bv : List Value} {sn : List Str} {sub : List Value} {ab : Bool} {col : Option Bool} {dd : Option Addr} {k0 k1 k2 k3 k5 : Option Value}
  {oc doc pm ct ccl cl : Value} {od an cdd cld : Option Addr} {osl vs' ccs csl : Array (Option Value)} {vs : Array Value} {tf : Tok} {p1 p2 a1 a2 a3 a4 a5 a6 b1 b2 b3 b4 c1 c2 c3 c4 : Pos}
theorem contains_ve (X : String) (hX : (PySem.HandSPX.veTail).contains (.type X) = true) : ∀ l : List Addr, (l.map Value.ref ++ PySem.HandSPX.veTail).contains (Value.type X) = true
  | [] => hX
  | a :: l => by
    rw [List.map_cons, List.cons_append, List.contains_cons, contains_ve X hX l, Bool.or_true]
theorem sub_ve {l : List Addr} {n : String} (hC : K.lookup C = some (excClassObj z q C N bv (l.map Value.ref ++ PySem.HandSPX.veTail) true sn sub ab col dd k0 k1 k2 k3 k5 n)) (X : String) (hX : (PySem.HandSPX.veTail).contains (.type X) = true) : PySem.W.subIn K (.ref C) (.type X) = some true := by
  show PySem.W.mroIn K C (.type X) = some true
  unfold PySem.W.mroIn
  rw [PySem.Bel.clsIn_of hC, Option.bind_some]
  exact congrArg some (contains_ve X hX (C :: l))
theorem com_of {l : List Addr} (X : K.In h) (G : h.Ns mainGlobals mg) (aC : PySem.W.nsIn K mainGlobals z = some (some (.ref C)))
    (xL : K.lookup C = some (excClassObj z q C N bv (l.map Value.ref ++ PySem.HandSPX.veTail) true sn sub ab col dd k0 k1 k2 k3 k5 "ValueError.__new__"))
    (sa : PySem.W.findIn K (.ref C) "__setattr__" = some (some (.builtin "object.__setattr__"))) (ga : PySem.W.findIn K (.ref C) "__getattribute__" = some (some (.builtin "BaseException.__getattribute__"))) (gg : PySem.W.findIn K (.ref C) "__getattr__" = some none)
    (nP : PySem.W.findIn K (.ref C) "place" = some none) (nN : PySem.W.findIn K (.ref C) "name" = some none) (kC : PySem.W.keepIn K (.ref C) = true) (iC : PySem.W.findIn K (.ref C) "__init__" = some (some (.ref f))) (tF : PySem.W.typeIn K (.ref f) = some (.type "function")) : ErrCom prog K mg z C f :=
  { gC := PySem.W.mg_of X G aC, ga := ga, gg := gg, sa := sa, hdC := by unfold PySem.W.hasDictIn; rw [PySem.Bel.clsIn_of xL] <;> rfl, noP := nP, noN := nN, kC := kC, exC := sub_ve xL "BaseException" (by decide +kernel), isV := sub_ve xL "ValueError" (by decide +kernel),
    tyC := by
      show (K.lookup C).map (·.cls) = some (.type "type")
      rw [xL] <;> rfl
    iC := iC, tF := tF }
theorem errSub {y u qualB : Str} (X : K.In h) (G : h.Ns mainGlobals mg) (Z : ErrTop prog K mg) (TB : ErrTxtB prog K y u qualB B fB) (aC : PySem.W.nsIn K mainGlobals z = some (some (.ref C)))
    (xL : K.lookup C = some (excClassObj z q C N bv [.ref B, .type "ValueError", .type "Exception", .type "BaseException", .type "object"] true sn sub ab col dd k0 k1 k2 k3 k5 "ValueError.__new__"))
    (sa : PySem.W.findIn K (.ref C) "__setattr__" = some (some (.builtin "object.__setattr__"))) (ga : PySem.W.findIn K (.ref C) "__getattribute__" = some (some (.builtin "BaseException.__getattribute__"))) (gg : PySem.W.findIn K (.ref C) "__getattr__" = some none)
    (nP : PySem.W.findIn K (.ref C) "place" = some none) (nN : PySem.W.findIn K (.ref C) "name" = some none) (kC : PySem.W.keepIn K (.ref C) = true) (iC : PySem.W.findIn K (.ref C) "__init__" = some (some (.ref f))) (tF : PySem.W.typeIn K (.ref f) = some (.type "function"))
    (sB : PySem.W.ks_superIn K C B "__init__" = some (some (.builtin "ValueError.__init__"))) (sC : PySem.W.ks_superIn K C C "__init__" = some (some (.ref fB)))
    (lF : K.lookup f = some ⟨oc, od, .func (PySem.W.ksFn "__init__" qual (PySem.Bel.aA p1 p2) (PySem.Bel.cB z a1 a2 a3 a4 a5 a6 c1 c2 c3 c4) PySem.Bel.sB .none .none doc pm an (.ref cda) ct cc), osl⟩) (cF : PySem.W.codeIn K (.ref cda) qual = true)
    (lc : K.lookup cda = some ⟨ccl, cdd, .fields vs, ccs⟩) (hv : vs[2]? = some (.str prog.main.file tf)) (lcc : K.lookup cc = some ⟨cl, cld, .cell (some (.ref C)), csl⟩) (hpos : (a3.endLine == a5.line) = true) : ErrC prog K mg z C z [B] :=
  ErrC.ofSub TB ⟨⟨_, _, _, _, _, _, _, _, _, _, _, _, _, xL⟩, sB, sC, ⟨cc, cda, .ref cda, p1, p2, a1, a2, a3, a4, a5, a6, c1, c2, c3, c4, ⟨⟨oc, od, doc, pm, ct, an, osl, lF⟩, rfl, cF, ⟨ccl, cdd, vs, ccs, tf, lc, hv⟩, ⟨cl, cld, csl, lcc⟩, ⟨_, PySem.Bel.clsIn_of xL⟩⟩, hpos⟩⟩
    (com_of (l := [B]) X G aC xL sa ga gg nP nN kC iC tF) Z
theorem errTop {pmT : Value} (X : K.In h) (G : h.Ns mainGlobals mg) (Z : ErrTop prog K mg) (aC : PySem.W.nsIn K mainGlobals z = some (some (.ref C)))
    (xL : K.lookup C = some (excClassObj z q C N bv [.type "ValueError", .type "Exception", .type "BaseException", .type "object"] true sn sub ab col dd k0 k1 k2 k3 k5 "ValueError.__new__"))
    (sa : PySem.W.findIn K (.ref C) "__setattr__" = some (some (.builtin "object.__setattr__"))) (ga : PySem.W.findIn K (.ref C) "__getattribute__" = some (some (.builtin "BaseException.__getattribute__"))) (gg : PySem.W.findIn K (.ref C) "__getattr__" = some none)
    (nP : PySem.W.findIn K (.ref C) "place" = some none) (nN : PySem.W.findIn K (.ref C) "name" = some none) (kC : PySem.W.keepIn K (.ref C) = true) (iC : PySem.W.findIn K (.ref C) "__init__" = some (some (.ref f))) (tF : PySem.W.typeIn K (.ref f) = some (.type "function"))
    (sC : PySem.W.ks_superIn K C C "__init__" = some (some (.builtin "ValueError.__init__")))
    (lF : K.lookup f = some ⟨oc, od, .func (PySem.W.ksFn "__init__" qual (PySem.Bel.aA p1 p2) (PySem.Bel.bB z a1 a2 a3 a4 a5 a6 b1 b2 b3 b4 c1 c2 c3 c4) PySem.Bel.sB .none .none doc pm an (.ref cda) ct cc), osl⟩) (cF : PySem.W.codeIn K (.ref cda) qual = true)
    (lc : K.lookup cda = some ⟨ccl, cdd, .fields vs, ccs⟩) (hv : vs[2]? = some (.str prog.main.file tf)) (lcc : K.lookup cc = some ⟨cl, cld, .cell (some (.ref C)), csl⟩) (hpos : (a3.endLine == a5.line) = true) :
    ErrTxtB prog K z z qual C f ∧ ErrC prog K mg z C z [] := by
  have T : ErrTxtB prog K z z qual C f := ⟨⟨_, _, _, _, _, _, _, _, _, _, _, _, _, xL⟩, sC, ⟨cc, cda, .ref cda, p1, p2, a1, a2, a3, a4, a5, a6, b1, b2, b3, b4, c1, c2, c3, c4, ⟨⟨oc, od, doc, pm, ct, an, osl, lF⟩, rfl, cF, ⟨ccl, cdd, vs, ccs, tf, lc, hv⟩, ⟨cl, cld, csl, lcc⟩, ⟨_, PySem.Bel.clsIn_of xL⟩⟩, hpos⟩, tF,
    by unfold PySem.W.fnIn; rw [lF]⟩
  exact ⟨T, ErrC.ofBase T (com_of (l := []) X G aC xL sa ga gg nP nN kC iC tF) Z⟩
end
end L2
namespace DL
open PySem L2
theorem okD_of {P : Program} {w : World} {K : PySem.W.Frag} {mg : Str → Option Value} {base h : Heap} {CX : CXT} {x : Str} {k : Nat} {sp : Sp} {f : Addr} {fd : FuncData} {ps : List Str} {st : Stmt} (X : K.In h) (G : h.Ns mainGlobals mg) (a : PySem.W.nsIn K mainGlobals x = some (some (.ref f)))
    (F : Fun K x x st f fd) (b : Binds K fd ps []) (ok : FnOk P w K mg base CX k f fd ps sp) : OkD P w K mg base CX x k sp := ⟨f, fd, ps, ok, PySem.W.mg_of X G a, F.kp, b⟩
end DL

set_option Elab.async false
set_option linter.all false
set_option maxRecDepth 100000
set_option maxHeartbeats 4000000
namespace K
open PySem L2 DL
/-! ## The law -/
section
variable {C : Cn} {ρ : DEnv} {t : TA} {Q : DV → Prop} {E : XK} {s c : Addr}
/-- a draw, in a def that holds the state -/
theorem we_draw (hS : C.S = [s, c]) (hJ : C.J = drawJ s c) (h : WA C t ρ fun xs => ∃ m : Int, xs = [.o (.ref s), .d (.int m)] ∧ 0 < m ∧ m < 2 ^ 64 ∧ ∀ r : Int, 0 ≤ r → r < m → Q (.d (.int r))) : WE C (tCall (spDraw C.P C.K C.mg) [] E t) ρ Q := fun σ G H Q0 R k =>
  h σ G H _ R fun xs vs G1 H1 ⟨m, e, h0, h1, hq⟩ n1 da => by
    rw [List.append_nil]
    subst e
    have da' := dvAll_noW da fun x hx i e => by
      subst e
      simp at hx
    have gs := n1.rel.fin.gs
    have j := n1.rel.fin.j
    rw [hS] at gs
    rw [hJ] at j
    refine ⟨s, c, G1, _, Q, fun _ _ => False, n1.rel.fin.gh, j, gs, da', ⟨m, rfl, h0, h1, hq⟩, fun x v G' H' q g j dv => ?_, fun z x hz => hz.elim⟩
    have g' : GrS C.S G1 H1 G' H' := by rw [hS]; exact g
    have j' : C.J H' := by rw [hJ]; exact j
    exact k x v G' H' q (n1.trans (g'.nxt n1.rel j') R.fin.j) (dv_noSig dv)
end
theorem run_ws {C : Cn} {ts : TS} {ρ : DEnv} {D : DE} {σ : L2.St} {G H : Hp} {D0 : Ends} (W : WS C ts ρ D) (R : Rel C ρ σ G H) (E : EndsOk C D D0 G) : ts D0 σ H := W σ G H D0 R E
/-- the places that are drawn -/
def Pl (x : PyData) : Prop := x = .int 7 ∨ x = .tuple [.str "a", .int 3] ∨ x = .str "text" ∨ ∃ r, x = .int r
theorem pl_eq {x : PyData} (h : Pl x) : PyData.eqv x x = true ∧ SeqAt.shaped x = true := by
  rcases h with rfl | rfl | rfl | ⟨r, rfl⟩
  · exact ⟨by decide +kernel, by decide +kernel⟩
  · exact ⟨by decide +kernel, by decide +kernel⟩
  · exact ⟨by decide +kernel, by decide +kernel⟩
  · exact ⟨by simp [PyData.eqv], rfl⟩
theorem nm_ok {k : Nat} (h : k < 15) : PyData.eqv (.str (nm k)) (.str (nm k)) = true ∧ PyData.canLay0 (.str (nm k)) = true := by
  rcases cases15 h with rfl | rfl | rfl | rfl | rfl | rfl | rfl | rfl | rfl | rfl | rfl | rfl | rfl | rfl | rfl <;> exact ⟨by decide +kernel, by decide +kernel⟩
theorem tri_eq {x : PyData} {k : Nat} (hx : Pl x) (hk : k < 15) : PyData.eqv (.tuple [.str (nm k), x, .str (nm k)]) (.tuple [.str (nm k), x, .str (nm k)]) = true ∧ SeqAt.shaped (.tuple [.str (nm k), x, .str (nm k)]) = true := by
  obtain ⟨e1, s1⟩ := pl_eq hx
  obtain ⟨e2, s2⟩ := nm_ok hk
  unfold SeqAt.shaped at s1 ⊢
  rw [Bool.and_eq_true, decide_eq_true_eq] at s1 ⊢
  obtain ⟨s1, d1⟩ := s1
  refine ⟨?_, ?_, ?_⟩
  · simp only [PyData.eqv, PyData.eqvAll, Bool.and_true]
    simp only [PyData.eqv] at e2
    rw [e1, e2]
    rfl
  · simp only [PyData.canLay0, PyData.canLayAll0, Bool.and_true]
    simp only [PyData.canLay0] at s2
    rw [s1, s2]
    rfl
  · have d1' : x.depth ≤ 4 := by
      rcases hx with rfl | rfl | rfl | ⟨r, rfl⟩
      · decide +kernel
      · decide +kernel
      · decide +kernel
      · exact Nat.zero_le _
    simp only [PyData.depth, PyData.depthAll]
    omega
def nms : List PyData := [.str "TooLarge", .str "InvalidBook", .str "InvalidCode", .str "InvalidLog", .str "InvalidLot", .str "InvalidPrime", .str "InvalidProgram", .str "InvalidQuestion", .str "InvalidRows", .str "InvalidState"] ++ [.str "InvalidSum", .str "InvalidTable", .str "InvalidText", .str "InvalidWrong", .str "BeliefError"]
theorem nms_at {k : Nat} (h : k < 15) : atI nms (0 + (k : Int)) = some (.str (nm k)) := by
  rw [Int.zero_add]
  refine atI_nat ?_
  rcases cases15 h with rfl | rfl | rfl | rfl | rfl | rfl | rfl | rfl | rfl | rfl | rfl | rfl | rfl | rfl | rfl <;> rfl
def spLaw (K : PySem.W.Frag) : Sp := fun vs H Q _ => ∃ (a : Addr) (ns : List Int), vs = [.ref a] ∧ SqL K H a (ns.map V.int) ∧ ns.length ≤ 63 ∧ ∀ H', Q (.bl true) H'
section
variable {P : Program} {w : World} {K : PySem.W.Frag} {mg : Str → Option Value} {base : Heap} {c : Nat → Addr} {B : Addr}
abbrev s_law : Stmt := top 23
theorem sc_law : FnScope ["script", "state", "names", "k", "place", "due"] ["script"] (defScope s_law) := ⟨rfl, rfl, rfl, by decide +kernel, rfl, by decide +kernel, by decide +kernel⟩
theorem ok_law {f : Addr} {fd : FuncData} (F : Fun K "law" "law" s_law f fd) (T : Txt K mg) (G1 : OkD P w K mg base CX0 "_law_state" 2 (spState K)) (G2 : OkD P w K mg base CX0 "_law_draw" 2 (spDraw P K mg))
    (G3 : OkD P w K mg base CX0 "_law_first" 5 (spD P K mg caughtT)) (G4 : OkD P w K mg base CX0 "_law_last" 5 (spD P K mg caughtT)) (G5 : OkD P w K mg base CX0 "_law_above" 5 (spD P K mg aboveT)) : FnOk P w K mg base CX0 6 f fd ["script"] (spLaw K) := by
  refine F.ok sc_law (fun vs H Q E h => ?_) (fun cdv A outer s H vs Q E hr h => ?_)
  · obtain ⟨a, ns, rfl, _⟩ := h
    rfl
  · obtain ⟨a, ns, rfl, hS, hl, k⟩ := h
    refine ⟨_, (pss_cons (ps_set (i := 1) sc_law.nd rfl (Or.inl rfl) (pe_callO G1 (hr.mono (by decide)) pass0 (pa_cons (pv 0) pa_nil)))
      (pss_cons (ps_set (i := 2) sc_law.nd rfl (Or.inl rfl) (pe_tup (pa_cons pe_str (pa_cons pe_str (pa_cons pe_str (pa_cons pe_str (pa_cons pe_str (pa_cons pe_str (pa_cons pe_str (pa_cons pe_str (pa_cons pe_str (pa_cons pe_str pa_nil))))))))))))
      (pss_cons (ps_set (i := 2) sc_law.nd rfl (Or.inl rfl) (pe_op op_addX (pv 2) (pe_tup (pa_cons pe_str (pa_cons pe_str (pa_cons pe_str (pa_cons pe_str (pa_cons pe_str pa_nil))))))))
      (pss_cons (ps_for PassesOwn.never rfl (pi_range1 (by rfl) T.n_range (pa_cons pe_int pa_nil)) (pg_name (i := 3) sc_law.nd rfl (Or.inl rfl))
        (pss_cons (ps_set (i := 4) sc_law.nd rfl (Or.inl rfl) (pe_ix ix_seq (pe_tup (pa_cons pe_int (pa_cons (pe_tup (pa_cons pe_str (pa_cons pe_int pa_nil))) (pa_cons pe_str (pa_cons (pe_callO G2 (hr.mono (by decide)) pass0 (pa_cons (pv 1) (pa_cons pe_int pa_nil))) pa_nil))))) (pe_callO G2 (hr.mono (by decide)) pass0 (pa_cons (pv 1) (pa_cons pe_int pa_nil))) (fun _ _ => rfl)))
        (pss_cons (ps_set (i := 5) sc_law.nd rfl (Or.inl rfl) (pe_tup (pa_cons (pe_ix ix_seq (pv 2) (pv 3) (fun _ _ => rfl)) (pa_cons (pv 4) (pa_cons (pe_ix ix_seq (pv 2) (pv 3) (fun _ _ => rfl)) pa_nil)))))
        (pss_one (ps_if (PW.pt (pw_or (pt_cmpR (op_neX (hr.units)) (pe_callO G3 (hr.mono (by decide)) pass0 (pa_cons (pv 3) (pa_cons (pv 4) pa_nil))) (pv 5) (nomark _)) (pw_or (pt_cmpR (op_neX (hr.units)) (pe_callO G4 (hr.mono (by decide)) pass0 (pa_cons (pv 3) (pa_cons (pv 4) pa_nil))) (pv 5) (nomark _)) (pw_or1 (pt_cmpR (op_neX (hr.units)) (pe_callO G5 (hr.mono (by decide)) pass0 (pa_cons (pv 3) (pa_cons (pv 4) pa_nil))) (pv 4) (nomark _))))))
          (pss_one (ps_ret pe_bl))
          pss_nil)))))
      (pss_one (ps_ret pe_bl)))))), ?_⟩
    refine ⟨_, rfl, a, ns, rfl, hS, hl, fun s c H' e hs hc j => ?_⟩
    let C : Cn := ⟨P, K, mg, [s, c], drawJ s c, H', H, drawJ_l, drawJ_n⟩
    have gs : ∀ b, b ∈ C.S → H b = none := fun b hb => by
      rcases List.mem_cons.mp hb with z | hb
      · rw [z]; exact hs
      · rcases List.mem_cons.mp hb with z | hb
        · rw [z]; exact hc
        · cases hb
    have FF : Fin C H H' := ⟨j, gs, .refl _, e, .refl _ _, fun b h1 h2 => absurd h2 h1⟩
    let ρ : DEnv := [some (.op (.ref a)), some (.op (.ref s)), none, none, none, none]
    have RR : Rel C ρ [some (.ref a), some (.ref s), none, none, none, none] H H' := by
      refine ⟨FF, rfl, ?_, ?_, ?_, ?_, ?_⟩
      · intro i d h
        match i, h with
        | 0, h => cases h
        | 1, h => cases h
        | 2, h => cases h
        | 3, h => cases h
        | 4, h => cases h
        | 5, h => cases h
        | n + 6, h => cases h
      · intro i d h
        match i, h with
        | 0, h => cases h; rfl
        | 1, h => cases h; rfl
        | 2, h => cases h
        | 3, h => cases h
        | 4, h => cases h
        | 5, h => cases h
        | n + 6, h => cases h
      · intro i d h
        match i, h with
        | 0, h => cases h
        | 1, h => cases h
        | 2, h => cases h
        | 3, h => cases h
        | 4, h => cases h
        | 5, h => cases h
        | n + 6, h => cases h
      · intro i _ _ _ _ _ h
        match i, h with
        | 0, h => cases h
        | 1, h => cases h
        | 2, h => cases h
        | 3, h => cases h
        | 4, h => cases h
        | 5, h => cases h
        | n + 6, h => cases h
      · intro i _ _ _ _ _ h
        match i, h with
        | 0, h => cases h
        | 1, h => cases h
        | 2, h => cases h
        | 3, h => cases h
        | 4, h => cases h
        | 5, h => cases h
        | n + 6, h => cases h
    dsimp only [gName]
    refine run_ws (C := C) (ρ := ρ) (D := { nx := fun _ => False, rt := fun x => x = .d (.bool true) }) ?_ RR ⟨fun _ _ _ _ q => q.elim, fun x v G' H' q _ dv => by subst q; cases dv; exact k H', fun _ _ _ _ q => q.elim, fun _ _ _ _ q => q.elim⟩
    refine ws_seq (ws_asg (we_tup ?_))
    repeat refine wa_cons (we_str ?_)
    refine wa_nil ⟨_, rfl, by simp, ?_⟩
    refine ws_seq (ws_asg (we_op (we_im rfl (we_tup ?_))))
    repeat refine wa_cons (we_str ?_)
    refine wa_nil ⟨_, rfl, by simp, ro_addT (by simp) ?_⟩
    refine ws_seq (ws_for (wi_range1 (wa_cons (we_int (wa_nil ⟨15, rfl, by decide, by decide, fun i ρ' => ∃ x y z, ρ' = [some (.op (.ref a)), some (.op (.ref s)), some (.im (.tuple nms)), x, y, z], ⟨none, none, none, rfl⟩, ?_, ?_⟩)))))
    · rintro i d ρ' hd ⟨x, y, z, rfl⟩
      obtain ⟨hi, rfl⟩ := intsFrom_get hd
      have hi : i < 15 := hi
      refine wg_name ?_
      -- the place
      refine ws_seq (ws_asg (we_op (we_tup (wa_cons (we_int (wa_cons (we_tup (wa_cons (we_str (wa_cons (we_int (wa_nil ⟨_, rfl, by simp, ?_⟩))))))))))))
      refine wa_cons (we_str (wa_cons (we_draw (C := C) rfl rfl (wa_cons (we_opq rfl (wa_cons (we_int (wa_nil ⟨100, rfl, by decide, by decide, fun r h0 h1 => ?_⟩))))))))
      refine wa_nil ⟨_, rfl, by simp, ?_⟩
      refine we_draw (C := C) rfl rfl (wa_cons (we_opq rfl (wa_cons (we_int (wa_nil ⟨4, rfl, by decide, by decide, fun u g0 g1 => ?_⟩)))))
      obtain ⟨px, hat, hpl⟩ : ∃ px, atI [PyData.int 7, .tuple [.str "a", .int 3], .str "text", .int r] u = some px ∧ Pl px := by
        have : u = 0 ∨ u = 1 ∨ u = 2 ∨ u = 3 := by omega
        rcases this with rfl | rfl | rfl | rfl
        · exact ⟨_, rfl, .inl rfl⟩
        · exact ⟨_, rfl, .inr (.inl rfl)⟩
        · exact ⟨_, rfl, .inr (.inr (.inl rfl))⟩
        · exact ⟨_, rfl, .inr (.inr (.inr ⟨r, rfl⟩))⟩
      refine ro_ixT hat ?_
      obtain ⟨pe1, ps1⟩ := pl_eq hpl
      obtain ⟨te1, ts1⟩ := tri_eq hpl hi
      -- what is due
      refine ws_seq (ws_asg (we_tup (wa_cons (we_op (we_im rfl (we_im rfl (ro_ixT (nms_at hi) (wa_cons (we_im rfl (wa_cons (we_op (we_im rfl (we_im rfl (ro_ixT (nms_at hi) (wa_nil ⟨_, rfl, by simp, ?_⟩)))))))))))))))
      -- the three looks
      have e0 : (0 + (i : Int)) = (i : Int) := Int.zero_add _
      rw [e0]
      refine ws_if (wt_or (wt_test (we_op (we_callD (wa_cons (we_im rfl (wa_cons (we_im rfl (wa_nil ⟨rfl, fun _ _ => False, ⟨i, px, hi, rfl, ?_⟩, fun _ _ q => q.elim⟩)))))))))
      refine we_im rfl (ro_neX ts1 ts1 ⟨_, rfl, fun hb => ?_, fun _ => ?_⟩)
      · rw [te1] at hb
        cases hb
      refine wt_or (wt_test (we_op (we_callD (wa_cons (we_im rfl (wa_cons (we_im rfl (wa_nil ⟨rfl, fun _ _ => False, ⟨i, px, hi, rfl, ?_⟩, fun _ _ q => q.elim⟩))))))))
      refine we_im rfl (ro_neX ts1 ts1 ⟨_, rfl, fun hb => ?_, fun _ => ?_⟩)
      · rw [te1] at hb
        cases hb
      refine wt_test (we_op (we_callD (wa_cons (we_im rfl (wa_cons (we_im rfl (wa_nil ⟨rfl, fun _ _ => False, ⟨i, px, hi, rfl, ?_⟩, fun _ _ q => q.elim⟩)))))))
      refine we_im rfl (ro_neX ps1 ps1 ⟨_, rfl, fun hb => ?_, fun _ => ws_next ⟨_, _, _, rfl⟩⟩)
      rw [pe1] at hb
      cases hb
    · rintro ρ' ⟨x, y, z, rfl⟩
      exact ws_ret (we_bl rfl)
end
end K

set_option Elab.async false
set_option linter.all false
set_option maxRecDepth 100000
set_option maxHeartbeats 4000000
namespace K
open PySem L2 DL
theorem all_mk {w : World} {K : PySem.W.Frag} {h : Heap} {mg : Str → Option Value} {fa : Addr} (X : K.In h) (G : h.Ns mainGlobals mg) (hfa : mg "law" = some (.ref fa))
    {f0 : Addr} {od0 an0 : Option Addr} {sl0 : Array (Option Value)} {oc0 kV0 dc0 pm0 cd0 ct0 : Value}
    {f1 : Addr} {od1 an1 : Option Addr} {sl1 : Array (Option Value)} {oc1 kV1 dc1 pm1 cd1 ct1 : Value}
    {f2 : Addr} {od2 an2 : Option Addr} {sl2 : Array (Option Value)} {oc2 kV2 dc2 pm2 cd2 ct2 : Value}
    {f3 : Addr} {od3 an3 : Option Addr} {sl3 : Array (Option Value)} {oc3 kV3 dc3 pm3 cd3 ct3 : Value}
    {f4 : Addr} {od4 an4 : Option Addr} {sl4 : Array (Option Value)} {oc4 kV4 dc4 pm4 cd4 ct4 : Value}
    {f5 : Addr} {od5 an5 : Option Addr} {sl5 : Array (Option Value)} {oc5 kV5 dc5 pm5 cd5 ct5 : Value}
    {f6 : Addr} {od6 an6 : Option Addr} {sl6 : Array (Option Value)} {oc6 kV6 dc6 pm6 cd6 ct6 : Value}
    {C0 F0 N0 cc0 cda0 : Addr} {q0 : Str} {bv0 : List Value} {sn0 : List Str} {sub0 : List Value} {ab0 : Bool} {col0 : Option Bool} {dd0 : Option Addr} {ka0 kb0 kc0 kd0 ke0 : Option Value} {oc_0 doc0 pm_0 ct_0 ccl0 cl0 : Value} {od_0 an_0 cdd0 cld0 : Option Addr} {osl0 ccs0 csl0 : Array (Option Value)} {vs0 : Array Value} {tf0 : Tok}
    {x0_0 x0_1 x0_2 x0_3 x0_4 x0_5 x0_6 x0_7 x0_8 x0_9 x0_10 x0_11 x0_12 x0_13 x0_14 x0_15 : Pos}
    {C1 F1 N1 cc1 cda1 : Addr} {q1 : Str} {bv1 : List Value} {sn1 : List Str} {sub1 : List Value} {ab1 : Bool} {col1 : Option Bool} {dd1 : Option Addr} {ka1 kb1 kc1 kd1 ke1 : Option Value} {oc_1 doc1 pm_1 ct_1 ccl1 cl1 : Value} {od_1 an_1 cdd1 cld1 : Option Addr} {osl1 ccs1 csl1 : Array (Option Value)} {vs1 : Array Value} {tf1 : Tok}
    {x1_0 x1_1 x1_2 x1_3 x1_4 x1_5 x1_6 x1_7 x1_8 x1_9 x1_10 x1_11 : Pos}
    {C2 F2 N2 cc2 cda2 : Addr} {q2 : Str} {bv2 : List Value} {sn2 : List Str} {sub2 : List Value} {ab2 : Bool} {col2 : Option Bool} {dd2 : Option Addr} {ka2 kb2 kc2 kd2 ke2 : Option Value} {oc_2 doc2 pm_2 ct_2 ccl2 cl2 : Value} {od_2 an_2 cdd2 cld2 : Option Addr} {osl2 ccs2 csl2 : Array (Option Value)} {vs2 : Array Value} {tf2 : Tok}
    {x2_0 x2_1 x2_2 x2_3 x2_4 x2_5 x2_6 x2_7 x2_8 x2_9 x2_10 x2_11 : Pos}
    {C3 F3 N3 cc3 cda3 : Addr} {q3 : Str} {bv3 : List Value} {sn3 : List Str} {sub3 : List Value} {ab3 : Bool} {col3 : Option Bool} {dd3 : Option Addr} {ka3 kb3 kc3 kd3 ke3 : Option Value} {oc_3 doc3 pm_3 ct_3 ccl3 cl3 : Value} {od_3 an_3 cdd3 cld3 : Option Addr} {osl3 ccs3 csl3 : Array (Option Value)} {vs3 : Array Value} {tf3 : Tok}
    {x3_0 x3_1 x3_2 x3_3 x3_4 x3_5 x3_6 x3_7 x3_8 x3_9 x3_10 x3_11 : Pos}
    {C4 F4 N4 cc4 cda4 : Addr} {q4 : Str} {bv4 : List Value} {sn4 : List Str} {sub4 : List Value} {ab4 : Bool} {col4 : Option Bool} {dd4 : Option Addr} {ka4 kb4 kc4 kd4 ke4 : Option Value} {oc_4 doc4 pm_4 ct_4 ccl4 cl4 : Value} {od_4 an_4 cdd4 cld4 : Option Addr} {osl4 ccs4 csl4 : Array (Option Value)} {vs4 : Array Value} {tf4 : Tok}
    {x4_0 x4_1 x4_2 x4_3 x4_4 x4_5 x4_6 x4_7 x4_8 x4_9 x4_10 x4_11 : Pos}
    {C5 F5 N5 cc5 cda5 : Addr} {q5 : Str} {bv5 : List Value} {sn5 : List Str} {sub5 : List Value} {ab5 : Bool} {col5 : Option Bool} {dd5 : Option Addr} {ka5 kb5 kc5 kd5 ke5 : Option Value} {oc_5 doc5 pm_5 ct_5 ccl5 cl5 : Value} {od_5 an_5 cdd5 cld5 : Option Addr} {osl5 ccs5 csl5 : Array (Option Value)} {vs5 : Array Value} {tf5 : Tok}
    {x5_0 x5_1 x5_2 x5_3 x5_4 x5_5 x5_6 x5_7 x5_8 x5_9 x5_10 x5_11 : Pos}
    {C6 F6 N6 cc6 cda6 : Addr} {q6 : Str} {bv6 : List Value} {sn6 : List Str} {sub6 : List Value} {ab6 : Bool} {col6 : Option Bool} {dd6 : Option Addr} {ka6 kb6 kc6 kd6 ke6 : Option Value} {oc_6 doc6 pm_6 ct_6 ccl6 cl6 : Value} {od_6 an_6 cdd6 cld6 : Option Addr} {osl6 ccs6 csl6 : Array (Option Value)} {vs6 : Array Value} {tf6 : Tok}
    {x6_0 x6_1 x6_2 x6_3 x6_4 x6_5 x6_6 x6_7 x6_8 x6_9 x6_10 x6_11 : Pos}
    {C7 F7 N7 cc7 cda7 : Addr} {q7 : Str} {bv7 : List Value} {sn7 : List Str} {sub7 : List Value} {ab7 : Bool} {col7 : Option Bool} {dd7 : Option Addr} {ka7 kb7 kc7 kd7 ke7 : Option Value} {oc_7 doc7 pm_7 ct_7 ccl7 cl7 : Value} {od_7 an_7 cdd7 cld7 : Option Addr} {osl7 ccs7 csl7 : Array (Option Value)} {vs7 : Array Value} {tf7 : Tok}
    {x7_0 x7_1 x7_2 x7_3 x7_4 x7_5 x7_6 x7_7 x7_8 x7_9 x7_10 x7_11 : Pos}
    {C8 F8 N8 cc8 cda8 : Addr} {q8 : Str} {bv8 : List Value} {sn8 : List Str} {sub8 : List Value} {ab8 : Bool} {col8 : Option Bool} {dd8 : Option Addr} {ka8 kb8 kc8 kd8 ke8 : Option Value} {oc_8 doc8 pm_8 ct_8 ccl8 cl8 : Value} {od_8 an_8 cdd8 cld8 : Option Addr} {osl8 ccs8 csl8 : Array (Option Value)} {vs8 : Array Value} {tf8 : Tok}
    {x8_0 x8_1 x8_2 x8_3 x8_4 x8_5 x8_6 x8_7 x8_8 x8_9 x8_10 x8_11 : Pos}
    {C9 F9 N9 cc9 cda9 : Addr} {q9 : Str} {bv9 : List Value} {sn9 : List Str} {sub9 : List Value} {ab9 : Bool} {col9 : Option Bool} {dd9 : Option Addr} {ka9 kb9 kc9 kd9 ke9 : Option Value} {oc_9 doc9 pm_9 ct_9 ccl9 cl9 : Value} {od_9 an_9 cdd9 cld9 : Option Addr} {osl9 ccs9 csl9 : Array (Option Value)} {vs9 : Array Value} {tf9 : Tok}
    {x9_0 x9_1 x9_2 x9_3 x9_4 x9_5 x9_6 x9_7 x9_8 x9_9 x9_10 x9_11 : Pos}
    {C10 F10 N10 cc10 cda10 : Addr} {q10 : Str} {bv10 : List Value} {sn10 : List Str} {sub10 : List Value} {ab10 : Bool} {col10 : Option Bool} {dd10 : Option Addr} {ka10 kb10 kc10 kd10 ke10 : Option Value} {oc_10 doc10 pm_10 ct_10 ccl10 cl10 : Value} {od_10 an_10 cdd10 cld10 : Option Addr} {osl10 ccs10 csl10 : Array (Option Value)} {vs10 : Array Value} {tf10 : Tok}
    {x10_0 x10_1 x10_2 x10_3 x10_4 x10_5 x10_6 x10_7 x10_8 x10_9 x10_10 x10_11 : Pos}
    {C11 F11 N11 cc11 cda11 : Addr} {q11 : Str} {bv11 : List Value} {sn11 : List Str} {sub11 : List Value} {ab11 : Bool} {col11 : Option Bool} {dd11 : Option Addr} {ka11 kb11 kc11 kd11 ke11 : Option Value} {oc_11 doc11 pm_11 ct_11 ccl11 cl11 : Value} {od_11 an_11 cdd11 cld11 : Option Addr} {osl11 ccs11 csl11 : Array (Option Value)} {vs11 : Array Value} {tf11 : Tok}
    {x11_0 x11_1 x11_2 x11_3 x11_4 x11_5 x11_6 x11_7 x11_8 x11_9 x11_10 x11_11 : Pos}
    {C12 F12 N12 cc12 cda12 : Addr} {q12 : Str} {bv12 : List Value} {sn12 : List Str} {sub12 : List Value} {ab12 : Bool} {col12 : Option Bool} {dd12 : Option Addr} {ka12 kb12 kc12 kd12 ke12 : Option Value} {oc_12 doc12 pm_12 ct_12 ccl12 cl12 : Value} {od_12 an_12 cdd12 cld12 : Option Addr} {osl12 ccs12 csl12 : Array (Option Value)} {vs12 : Array Value} {tf12 : Tok}
    {x12_0 x12_1 x12_2 x12_3 x12_4 x12_5 x12_6 x12_7 x12_8 x12_9 x12_10 x12_11 : Pos}
    {C13 F13 N13 cc13 cda13 : Addr} {q13 : Str} {bv13 : List Value} {sn13 : List Str} {sub13 : List Value} {ab13 : Bool} {col13 : Option Bool} {dd13 : Option Addr} {ka13 kb13 kc13 kd13 ke13 : Option Value} {oc_13 doc13 pm_13 ct_13 ccl13 cl13 : Value} {od_13 an_13 cdd13 cld13 : Option Addr} {osl13 ccs13 csl13 : Array (Option Value)} {vs13 : Array Value} {tf13 : Tok}
    {x13_0 x13_1 x13_2 x13_3 x13_4 x13_5 x13_6 x13_7 x13_8 x13_9 x13_10 x13_11 : Pos}
    {C14 F14 N14 cc14 cda14 : Addr} {q14 : Str} {bv14 : List Value} {sn14 : List Str} {sub14 : List Value} {ab14 : Bool} {col14 : Option Bool} {dd14 : Option Addr} {ka14 kb14 kc14 kd14 ke14 : Option Value} {oc_14 doc14 pm_14 ct_14 ccl14 cl14 : Value} {od_14 an_14 cdd14 cld14 : Option Addr} {osl14 ccs14 csl14 : Array (Option Value)} {vs14 : Array Value} {tf14 : Tok}
    {x14_0 x14_1 x14_2 x14_3 x14_4 x14_5 x14_6 x14_7 x14_8 x14_9 x14_10 x14_11 : Pos}
    (a0 : PySem.W.nsIn K mainGlobals "_law_state" = some (some (.ref f0)))
    (l0 : K.lookup f0 = some ⟨oc0, od0, .func (PySem.W.fnOf "_law_state" "_law_state" (defArgs s_law_state) (defBody s_law_state) (defScope s_law_state) .none kV0 dc0 pm0 an0 cd0 ct0), sl0⟩)
    (c0 : PySem.W.codeIn K cd0 "_law_state" = true)
    (k0 : PySem.W.keepIn K (.ref f0) = true)
    (a1 : PySem.W.nsIn K mainGlobals "_law_draw" = some (some (.ref f1)))
    (l1 : K.lookup f1 = some ⟨oc1, od1, .func (PySem.W.fnOf "_law_draw" "_law_draw" (defArgs s_law_draw) (defBody s_law_draw) (defScope s_law_draw) .none kV1 dc1 pm1 an1 cd1 ct1), sl1⟩)
    (c1 : PySem.W.codeIn K cd1 "_law_draw" = true)
    (k1 : PySem.W.keepIn K (.ref f1) = true)
    (a2 : PySem.W.nsIn K mainGlobals "_law_raised" = some (some (.ref f2)))
    (l2 : K.lookup f2 = some ⟨oc2, od2, .func (PySem.W.fnOf "_law_raised" "_law_raised" (defArgs s_law_raised) (defBody s_law_raised) (defScope s_law_raised) .none kV2 dc2 pm2 an2 cd2 ct2), sl2⟩)
    (c2 : PySem.W.codeIn K cd2 "_law_raised" = true)
    (k2 : PySem.W.keepIn K (.ref f2) = true)
    (a3 : PySem.W.nsIn K mainGlobals "_law_first" = some (some (.ref f3)))
    (l3 : K.lookup f3 = some ⟨oc3, od3, .func (PySem.W.fnOf "_law_first" "_law_first" (defArgs s_law_first) (defBody s_law_first) (defScope s_law_first) .none kV3 dc3 pm3 an3 cd3 ct3), sl3⟩)
    (c3 : PySem.W.codeIn K cd3 "_law_first" = true)
    (k3 : PySem.W.keepIn K (.ref f3) = true)
    (a4 : PySem.W.nsIn K mainGlobals "_law_last" = some (some (.ref f4)))
    (l4 : K.lookup f4 = some ⟨oc4, od4, .func (PySem.W.fnOf "_law_last" "_law_last" (defArgs s_law_last) (defBody s_law_last) (defScope s_law_last) .none kV4 dc4 pm4 an4 cd4 ct4), sl4⟩)
    (c4 : PySem.W.codeIn K cd4 "_law_last" = true)
    (k4 : PySem.W.keepIn K (.ref f4) = true)
    (a5 : PySem.W.nsIn K mainGlobals "_law_above" = some (some (.ref f5)))
    (l5 : K.lookup f5 = some ⟨oc5, od5, .func (PySem.W.fnOf "_law_above" "_law_above" (defArgs s_law_above) (defBody s_law_above) (defScope s_law_above) .none kV5 dc5 pm5 an5 cd5 ct5), sl5⟩)
    (c5 : PySem.W.codeIn K cd5 "_law_above" = true)
    (k5 : PySem.W.keepIn K (.ref f5) = true)
    (a6 : PySem.W.nsIn K mainGlobals "law" = some (some (.ref f6)))
    (l6 : K.lookup f6 = some ⟨oc6, od6, .func (PySem.W.fnOf "law" "law" (defArgs s_law) (defBody s_law) (defScope s_law) .none kV6 dc6 pm6 an6 cd6 ct6), sl6⟩)
    (c6 : PySem.W.codeIn K cd6 "law" = true)
    (k6 : PySem.W.keepIn K (.ref f6) = true)
    (n_len : PySem.W.nsIn K mainGlobals "len" = some none)
    (n_int : PySem.W.nsIn K mainGlobals "int" = some none)
    (n_abs : PySem.W.nsIn K mainGlobals "abs" = some none)
    (n_range : PySem.W.nsIn K mainGlobals "range" = some none)
    (nosup : PySem.W.nsIn K mainGlobals "super" = some none)
    (plain : PySem.W.nsIn K cStatics "thirdparty.any" = some none)
    (eA0 : PySem.W.nsIn K mainGlobals "BeliefError" = some (some (.ref C0)))
    (eX0 : K.lookup C0 = some (excClassObj "BeliefError" q0 C0 N0 bv0 [.type "ValueError", .type "Exception", .type "BaseException", .type "object"] true sn0 sub0 ab0 col0 dd0 ka0 kb0 kc0 kd0 ke0 "ValueError.__new__"))
    (eS0 : PySem.W.findIn K (.ref C0) "__setattr__" = some (some (.builtin "object.__setattr__")))
    (eG0 : PySem.W.findIn K (.ref C0) "__getattribute__" = some (some (.builtin "BaseException.__getattribute__")))
    (eH0 : PySem.W.findIn K (.ref C0) "__getattr__" = some none)
    (eP0 : PySem.W.findIn K (.ref C0) "place" = some none)
    (eN0 : PySem.W.findIn K (.ref C0) "name" = some none)
    (eK0 : PySem.W.keepIn K (.ref C0) = true)
    (eI0 : PySem.W.findIn K (.ref C0) "__init__" = some (some (.ref F0)))
    (eT0 : PySem.W.typeIn K (.ref F0) = some (.type "function"))
    (eB0 : PySem.W.ks_superIn K C0 C0 "__init__" = some (some (.builtin "ValueError.__init__")))
    (eL0 : K.lookup F0 = some ⟨oc_0, od_0, .func (PySem.W.ksFn "__init__" "BeliefError.__init__" (PySem.Bel.aA x0_0 x0_1) (PySem.Bel.bB "BeliefError" x0_2 x0_3 x0_4 x0_5 x0_6 x0_7 x0_8 x0_9 x0_10 x0_11 x0_12 x0_13 x0_14 x0_15) PySem.Bel.sB .none .none doc0 pm_0 an_0 (.ref cda0) ct_0 cc0), osl0⟩)
    (eD0 : PySem.W.codeIn K (.ref cda0) "BeliefError.__init__" = true)
    (eE0 : K.lookup cda0 = some ⟨ccl0, cdd0, .fields vs0, ccs0⟩)
    (eV0 : vs0[2]? = some (.str PySem.Challenge.pw_readslittle_k00_errors.main.file tf0))
    (eF0 : K.lookup cc0 = some ⟨cl0, cld0, .cell (some (.ref C0)), csl0⟩)
    (eQ0 : (x0_4.endLine == x0_6.line) = true)
    (eA1 : PySem.W.nsIn K mainGlobals "TooLarge" = some (some (.ref C1)))
    (eX1 : K.lookup C1 = some (excClassObj "TooLarge" q1 C1 N1 bv1 [.ref C0, .type "ValueError", .type "Exception", .type "BaseException", .type "object"] true sn1 sub1 ab1 col1 dd1 ka1 kb1 kc1 kd1 ke1 "ValueError.__new__"))
    (eS1 : PySem.W.findIn K (.ref C1) "__setattr__" = some (some (.builtin "object.__setattr__")))
    (eG1 : PySem.W.findIn K (.ref C1) "__getattribute__" = some (some (.builtin "BaseException.__getattribute__")))
    (eH1 : PySem.W.findIn K (.ref C1) "__getattr__" = some none)
    (eP1 : PySem.W.findIn K (.ref C1) "place" = some none)
    (eN1 : PySem.W.findIn K (.ref C1) "name" = some none)
    (eK1 : PySem.W.keepIn K (.ref C1) = true)
    (eI1 : PySem.W.findIn K (.ref C1) "__init__" = some (some (.ref F1)))
    (eT1 : PySem.W.typeIn K (.ref F1) = some (.type "function"))
    (eB1 : PySem.W.ks_superIn K C1 C0 "__init__" = some (some (.builtin "ValueError.__init__")))
    (eC1 : PySem.W.ks_superIn K C1 C1 "__init__" = some (some (.ref F0)))
    (eL1 : K.lookup F1 = some ⟨oc_1, od_1, .func (PySem.W.ksFn "__init__" "TooLarge.__init__" (PySem.Bel.aA x1_0 x1_1) (PySem.Bel.cB "TooLarge" x1_2 x1_3 x1_4 x1_5 x1_6 x1_7 x1_8 x1_9 x1_10 x1_11) PySem.Bel.sB .none .none doc1 pm_1 an_1 (.ref cda1) ct_1 cc1), osl1⟩)
    (eD1 : PySem.W.codeIn K (.ref cda1) "TooLarge.__init__" = true)
    (eE1 : K.lookup cda1 = some ⟨ccl1, cdd1, .fields vs1, ccs1⟩)
    (eV1 : vs1[2]? = some (.str PySem.Challenge.pw_readslittle_k00_errors.main.file tf1))
    (eF1 : K.lookup cc1 = some ⟨cl1, cld1, .cell (some (.ref C1)), csl1⟩)
    (eQ1 : (x1_4.endLine == x1_6.line) = true)
    (eA2 : PySem.W.nsIn K mainGlobals "InvalidBook" = some (some (.ref C2)))
    (eX2 : K.lookup C2 = some (excClassObj "InvalidBook" q2 C2 N2 bv2 [.ref C0, .type "ValueError", .type "Exception", .type "BaseException", .type "object"] true sn2 sub2 ab2 col2 dd2 ka2 kb2 kc2 kd2 ke2 "ValueError.__new__"))
    (eS2 : PySem.W.findIn K (.ref C2) "__setattr__" = some (some (.builtin "object.__setattr__")))
    (eG2 : PySem.W.findIn K (.ref C2) "__getattribute__" = some (some (.builtin "BaseException.__getattribute__")))
    (eH2 : PySem.W.findIn K (.ref C2) "__getattr__" = some none)
    (eP2 : PySem.W.findIn K (.ref C2) "place" = some none)
    (eN2 : PySem.W.findIn K (.ref C2) "name" = some none)
    (eK2 : PySem.W.keepIn K (.ref C2) = true)
    (eI2 : PySem.W.findIn K (.ref C2) "__init__" = some (some (.ref F2)))
    (eT2 : PySem.W.typeIn K (.ref F2) = some (.type "function"))
    (eB2 : PySem.W.ks_superIn K C2 C0 "__init__" = some (some (.builtin "ValueError.__init__")))
    (eC2 : PySem.W.ks_superIn K C2 C2 "__init__" = some (some (.ref F0)))
    (eL2 : K.lookup F2 = some ⟨oc_2, od_2, .func (PySem.W.ksFn "__init__" "InvalidBook.__init__" (PySem.Bel.aA x2_0 x2_1) (PySem.Bel.cB "InvalidBook" x2_2 x2_3 x2_4 x2_5 x2_6 x2_7 x2_8 x2_9 x2_10 x2_11) PySem.Bel.sB .none .none doc2 pm_2 an_2 (.ref cda2) ct_2 cc2), osl2⟩)
    (eD2 : PySem.W.codeIn K (.ref cda2) "InvalidBook.__init__" = true)
    (eE2 : K.lookup cda2 = some ⟨ccl2, cdd2, .fields vs2, ccs2⟩)
    (eV2 : vs2[2]? = some (.str PySem.Challenge.pw_readslittle_k00_errors.main.file tf2))
    (eF2 : K.lookup cc2 = some ⟨cl2, cld2, .cell (some (.ref C2)), csl2⟩)
    (eQ2 : (x2_4.endLine == x2_6.line) = true)
    (eA3 : PySem.W.nsIn K mainGlobals "InvalidCode" = some (some (.ref C3)))
    (eX3 : K.lookup C3 = some (excClassObj "InvalidCode" q3 C3 N3 bv3 [.ref C0, .type "ValueError", .type "Exception", .type "BaseException", .type "object"] true sn3 sub3 ab3 col3 dd3 ka3 kb3 kc3 kd3 ke3 "ValueError.__new__"))
    (eS3 : PySem.W.findIn K (.ref C3) "__setattr__" = some (some (.builtin "object.__setattr__")))
    (eG3 : PySem.W.findIn K (.ref C3) "__getattribute__" = some (some (.builtin "BaseException.__getattribute__")))
    (eH3 : PySem.W.findIn K (.ref C3) "__getattr__" = some none)
    (eP3 : PySem.W.findIn K (.ref C3) "place" = some none)
    (eN3 : PySem.W.findIn K (.ref C3) "name" = some none)
    (eK3 : PySem.W.keepIn K (.ref C3) = true)
    (eI3 : PySem.W.findIn K (.ref C3) "__init__" = some (some (.ref F3)))
    (eT3 : PySem.W.typeIn K (.ref F3) = some (.type "function"))
    (eB3 : PySem.W.ks_superIn K C3 C0 "__init__" = some (some (.builtin "ValueError.__init__")))
    (eC3 : PySem.W.ks_superIn K C3 C3 "__init__" = some (some (.ref F0)))
    (eL3 : K.lookup F3 = some ⟨oc_3, od_3, .func (PySem.W.ksFn "__init__" "InvalidCode.__init__" (PySem.Bel.aA x3_0 x3_1) (PySem.Bel.cB "InvalidCode" x3_2 x3_3 x3_4 x3_5 x3_6 x3_7 x3_8 x3_9 x3_10 x3_11) PySem.Bel.sB .none .none doc3 pm_3 an_3 (.ref cda3) ct_3 cc3), osl3⟩)
    (eD3 : PySem.W.codeIn K (.ref cda3) "InvalidCode.__init__" = true)
    (eE3 : K.lookup cda3 = some ⟨ccl3, cdd3, .fields vs3, ccs3⟩)
    (eV3 : vs3[2]? = some (.str PySem.Challenge.pw_readslittle_k00_errors.main.file tf3))
    (eF3 : K.lookup cc3 = some ⟨cl3, cld3, .cell (some (.ref C3)), csl3⟩)
    (eQ3 : (x3_4.endLine == x3_6.line) = true)
    (eA4 : PySem.W.nsIn K mainGlobals "InvalidLog" = some (some (.ref C4)))
    (eX4 : K.lookup C4 = some (excClassObj "InvalidLog" q4 C4 N4 bv4 [.ref C0, .type "ValueError", .type "Exception", .type "BaseException", .type "object"] true sn4 sub4 ab4 col4 dd4 ka4 kb4 kc4 kd4 ke4 "ValueError.__new__"))
    (eS4 : PySem.W.findIn K (.ref C4) "__setattr__" = some (some (.builtin "object.__setattr__")))
    (eG4 : PySem.W.findIn K (.ref C4) "__getattribute__" = some (some (.builtin "BaseException.__getattribute__")))
    (eH4 : PySem.W.findIn K (.ref C4) "__getattr__" = some none)
    (eP4 : PySem.W.findIn K (.ref C4) "place" = some none)
    (eN4 : PySem.W.findIn K (.ref C4) "name" = some none)
    (eK4 : PySem.W.keepIn K (.ref C4) = true)
    (eI4 : PySem.W.findIn K (.ref C4) "__init__" = some (some (.ref F4)))
    (eT4 : PySem.W.typeIn K (.ref F4) = some (.type "function"))
    (eB4 : PySem.W.ks_superIn K C4 C0 "__init__" = some (some (.builtin "ValueError.__init__")))
    (eC4 : PySem.W.ks_superIn K C4 C4 "__init__" = some (some (.ref F0)))
    (eL4 : K.lookup F4 = some ⟨oc_4, od_4, .func (PySem.W.ksFn "__init__" "InvalidLog.__init__" (PySem.Bel.aA x4_0 x4_1) (PySem.Bel.cB "InvalidLog" x4_2 x4_3 x4_4 x4_5 x4_6 x4_7 x4_8 x4_9 x4_10 x4_11) PySem.Bel.sB .none .none doc4 pm_4 an_4 (.ref cda4) ct_4 cc4), osl4⟩)
    (eD4 : PySem.W.codeIn K (.ref cda4) "InvalidLog.__init__" = true)
    (eE4 : K.lookup cda4 = some ⟨ccl4, cdd4, .fields vs4, ccs4⟩)
    (eV4 : vs4[2]? = some (.str PySem.Challenge.pw_readslittle_k00_errors.main.file tf4))
    (eF4 : K.lookup cc4 = some ⟨cl4, cld4, .cell (some (.ref C4)), csl4⟩)
    (eQ4 : (x4_4.endLine == x4_6.line) = true)
    (eA5 : PySem.W.nsIn K mainGlobals "InvalidLot" = some (some (.ref C5)))
    (eX5 : K.lookup C5 = some (excClassObj "InvalidLot" q5 C5 N5 bv5 [.ref C0, .type "ValueError", .type "Exception", .type "BaseException", .type "object"] true sn5 sub5 ab5 col5 dd5 ka5 kb5 kc5 kd5 ke5 "ValueError.__new__"))
    (eS5 : PySem.W.findIn K (.ref C5) "__setattr__" = some (some (.builtin "object.__setattr__")))
    (eG5 : PySem.W.findIn K (.ref C5) "__getattribute__" = some (some (.builtin "BaseException.__getattribute__")))
    (eH5 : PySem.W.findIn K (.ref C5) "__getattr__" = some none)
    (eP5 : PySem.W.findIn K (.ref C5) "place" = some none)
    (eN5 : PySem.W.findIn K (.ref C5) "name" = some none)
    (eK5 : PySem.W.keepIn K (.ref C5) = true)
    (eI5 : PySem.W.findIn K (.ref C5) "__init__" = some (some (.ref F5)))
    (eT5 : PySem.W.typeIn K (.ref F5) = some (.type "function"))
    (eB5 : PySem.W.ks_superIn K C5 C0 "__init__" = some (some (.builtin "ValueError.__init__")))
    (eC5 : PySem.W.ks_superIn K C5 C5 "__init__" = some (some (.ref F0)))
    (eL5 : K.lookup F5 = some ⟨oc_5, od_5, .func (PySem.W.ksFn "__init__" "InvalidLot.__init__" (PySem.Bel.aA x5_0 x5_1) (PySem.Bel.cB "InvalidLot" x5_2 x5_3 x5_4 x5_5 x5_6 x5_7 x5_8 x5_9 x5_10 x5_11) PySem.Bel.sB .none .none doc5 pm_5 an_5 (.ref cda5) ct_5 cc5), osl5⟩)
    (eD5 : PySem.W.codeIn K (.ref cda5) "InvalidLot.__init__" = true)
    (eE5 : K.lookup cda5 = some ⟨ccl5, cdd5, .fields vs5, ccs5⟩)
    (eV5 : vs5[2]? = some (.str PySem.Challenge.pw_readslittle_k00_errors.main.file tf5))
    (eF5 : K.lookup cc5 = some ⟨cl5, cld5, .cell (some (.ref C5)), csl5⟩)
    (eQ5 : (x5_4.endLine == x5_6.line) = true)
    (eA6 : PySem.W.nsIn K mainGlobals "InvalidPrime" = some (some (.ref C6)))
    (eX6 : K.lookup C6 = some (excClassObj "InvalidPrime" q6 C6 N6 bv6 [.ref C0, .type "ValueError", .type "Exception", .type "BaseException", .type "object"] true sn6 sub6 ab6 col6 dd6 ka6 kb6 kc6 kd6 ke6 "ValueError.__new__"))
    (eS6 : PySem.W.findIn K (.ref C6) "__setattr__" = some (some (.builtin "object.__setattr__")))
    (eG6 : PySem.W.findIn K (.ref C6) "__getattribute__" = some (some (.builtin "BaseException.__getattribute__")))
    (eH6 : PySem.W.findIn K (.ref C6) "__getattr__" = some none)
    (eP6 : PySem.W.findIn K (.ref C6) "place" = some none)
    (eN6 : PySem.W.findIn K (.ref C6) "name" = some none)
    (eK6 : PySem.W.keepIn K (.ref C6) = true)
    (eI6 : PySem.W.findIn K (.ref C6) "__init__" = some (some (.ref F6)))
    (eT6 : PySem.W.typeIn K (.ref F6) = some (.type "function"))
    (eB6 : PySem.W.ks_superIn K C6 C0 "__init__" = some (some (.builtin "ValueError.__init__")))
    (eC6 : PySem.W.ks_superIn K C6 C6 "__init__" = some (some (.ref F0)))
    (eL6 : K.lookup F6 = some ⟨oc_6, od_6, .func (PySem.W.ksFn "__init__" "InvalidPrime.__init__" (PySem.Bel.aA x6_0 x6_1) (PySem.Bel.cB "InvalidPrime" x6_2 x6_3 x6_4 x6_5 x6_6 x6_7 x6_8 x6_9 x6_10 x6_11) PySem.Bel.sB .none .none doc6 pm_6 an_6 (.ref cda6) ct_6 cc6), osl6⟩)
    (eD6 : PySem.W.codeIn K (.ref cda6) "InvalidPrime.__init__" = true)
    (eE6 : K.lookup cda6 = some ⟨ccl6, cdd6, .fields vs6, ccs6⟩)
    (eV6 : vs6[2]? = some (.str PySem.Challenge.pw_readslittle_k00_errors.main.file tf6))
    (eF6 : K.lookup cc6 = some ⟨cl6, cld6, .cell (some (.ref C6)), csl6⟩)
    (eQ6 : (x6_4.endLine == x6_6.line) = true)
    (eA7 : PySem.W.nsIn K mainGlobals "InvalidProgram" = some (some (.ref C7)))
    (eX7 : K.lookup C7 = some (excClassObj "InvalidProgram" q7 C7 N7 bv7 [.ref C0, .type "ValueError", .type "Exception", .type "BaseException", .type "object"] true sn7 sub7 ab7 col7 dd7 ka7 kb7 kc7 kd7 ke7 "ValueError.__new__"))
    (eS7 : PySem.W.findIn K (.ref C7) "__setattr__" = some (some (.builtin "object.__setattr__")))
    (eG7 : PySem.W.findIn K (.ref C7) "__getattribute__" = some (some (.builtin "BaseException.__getattribute__")))
    (eH7 : PySem.W.findIn K (.ref C7) "__getattr__" = some none)
    (eP7 : PySem.W.findIn K (.ref C7) "place" = some none)
    (eN7 : PySem.W.findIn K (.ref C7) "name" = some none)
    (eK7 : PySem.W.keepIn K (.ref C7) = true)
    (eI7 : PySem.W.findIn K (.ref C7) "__init__" = some (some (.ref F7)))
    (eT7 : PySem.W.typeIn K (.ref F7) = some (.type "function"))
    (eB7 : PySem.W.ks_superIn K C7 C0 "__init__" = some (some (.builtin "ValueError.__init__")))
    (eC7 : PySem.W.ks_superIn K C7 C7 "__init__" = some (some (.ref F0)))
    (eL7 : K.lookup F7 = some ⟨oc_7, od_7, .func (PySem.W.ksFn "__init__" "InvalidProgram.__init__" (PySem.Bel.aA x7_0 x7_1) (PySem.Bel.cB "InvalidProgram" x7_2 x7_3 x7_4 x7_5 x7_6 x7_7 x7_8 x7_9 x7_10 x7_11) PySem.Bel.sB .none .none doc7 pm_7 an_7 (.ref cda7) ct_7 cc7), osl7⟩)
    (eD7 : PySem.W.codeIn K (.ref cda7) "InvalidProgram.__init__" = true)
    (eE7 : K.lookup cda7 = some ⟨ccl7, cdd7, .fields vs7, ccs7⟩)
    (eV7 : vs7[2]? = some (.str PySem.Challenge.pw_readslittle_k00_errors.main.file tf7))
    (eF7 : K.lookup cc7 = some ⟨cl7, cld7, .cell (some (.ref C7)), csl7⟩)
    (eQ7 : (x7_4.endLine == x7_6.line) = true)
    (eA8 : PySem.W.nsIn K mainGlobals "InvalidQuestion" = some (some (.ref C8)))
    (eX8 : K.lookup C8 = some (excClassObj "InvalidQuestion" q8 C8 N8 bv8 [.ref C0, .type "ValueError", .type "Exception", .type "BaseException", .type "object"] true sn8 sub8 ab8 col8 dd8 ka8 kb8 kc8 kd8 ke8 "ValueError.__new__"))
    (eS8 : PySem.W.findIn K (.ref C8) "__setattr__" = some (some (.builtin "object.__setattr__")))
    (eG8 : PySem.W.findIn K (.ref C8) "__getattribute__" = some (some (.builtin "BaseException.__getattribute__")))
    (eH8 : PySem.W.findIn K (.ref C8) "__getattr__" = some none)
    (eP8 : PySem.W.findIn K (.ref C8) "place" = some none)
    (eN8 : PySem.W.findIn K (.ref C8) "name" = some none)
    (eK8 : PySem.W.keepIn K (.ref C8) = true)
    (eI8 : PySem.W.findIn K (.ref C8) "__init__" = some (some (.ref F8)))
    (eT8 : PySem.W.typeIn K (.ref F8) = some (.type "function"))
    (eB8 : PySem.W.ks_superIn K C8 C0 "__init__" = some (some (.builtin "ValueError.__init__")))
    (eC8 : PySem.W.ks_superIn K C8 C8 "__init__" = some (some (.ref F0)))
    (eL8 : K.lookup F8 = some ⟨oc_8, od_8, .func (PySem.W.ksFn "__init__" "InvalidQuestion.__init__" (PySem.Bel.aA x8_0 x8_1) (PySem.Bel.cB "InvalidQuestion" x8_2 x8_3 x8_4 x8_5 x8_6 x8_7 x8_8 x8_9 x8_10 x8_11) PySem.Bel.sB .none .none doc8 pm_8 an_8 (.ref cda8) ct_8 cc8), osl8⟩)
    (eD8 : PySem.W.codeIn K (.ref cda8) "InvalidQuestion.__init__" = true)
    (eE8 : K.lookup cda8 = some ⟨ccl8, cdd8, .fields vs8, ccs8⟩)
    (eV8 : vs8[2]? = some (.str PySem.Challenge.pw_readslittle_k00_errors.main.file tf8))
    (eF8 : K.lookup cc8 = some ⟨cl8, cld8, .cell (some (.ref C8)), csl8⟩)
    (eQ8 : (x8_4.endLine == x8_6.line) = true)
    (eA9 : PySem.W.nsIn K mainGlobals "InvalidRows" = some (some (.ref C9)))
    (eX9 : K.lookup C9 = some (excClassObj "InvalidRows" q9 C9 N9 bv9 [.ref C0, .type "ValueError", .type "Exception", .type "BaseException", .type "object"] true sn9 sub9 ab9 col9 dd9 ka9 kb9 kc9 kd9 ke9 "ValueError.__new__"))
    (eS9 : PySem.W.findIn K (.ref C9) "__setattr__" = some (some (.builtin "object.__setattr__")))
    (eG9 : PySem.W.findIn K (.ref C9) "__getattribute__" = some (some (.builtin "BaseException.__getattribute__")))
    (eH9 : PySem.W.findIn K (.ref C9) "__getattr__" = some none)
    (eP9 : PySem.W.findIn K (.ref C9) "place" = some none)
    (eN9 : PySem.W.findIn K (.ref C9) "name" = some none)
    (eK9 : PySem.W.keepIn K (.ref C9) = true)
    (eI9 : PySem.W.findIn K (.ref C9) "__init__" = some (some (.ref F9)))
    (eT9 : PySem.W.typeIn K (.ref F9) = some (.type "function"))
    (eB9 : PySem.W.ks_superIn K C9 C0 "__init__" = some (some (.builtin "ValueError.__init__")))
    (eC9 : PySem.W.ks_superIn K C9 C9 "__init__" = some (some (.ref F0)))
    (eL9 : K.lookup F9 = some ⟨oc_9, od_9, .func (PySem.W.ksFn "__init__" "InvalidRows.__init__" (PySem.Bel.aA x9_0 x9_1) (PySem.Bel.cB "InvalidRows" x9_2 x9_3 x9_4 x9_5 x9_6 x9_7 x9_8 x9_9 x9_10 x9_11) PySem.Bel.sB .none .none doc9 pm_9 an_9 (.ref cda9) ct_9 cc9), osl9⟩)
    (eD9 : PySem.W.codeIn K (.ref cda9) "InvalidRows.__init__" = true)
    (eE9 : K.lookup cda9 = some ⟨ccl9, cdd9, .fields vs9, ccs9⟩)
    (eV9 : vs9[2]? = some (.str PySem.Challenge.pw_readslittle_k00_errors.main.file tf9))
    (eF9 : K.lookup cc9 = some ⟨cl9, cld9, .cell (some (.ref C9)), csl9⟩)
    (eQ9 : (x9_4.endLine == x9_6.line) = true)
    (eA10 : PySem.W.nsIn K mainGlobals "InvalidState" = some (some (.ref C10)))
    (eX10 : K.lookup C10 = some (excClassObj "InvalidState" q10 C10 N10 bv10 [.ref C0, .type "ValueError", .type "Exception", .type "BaseException", .type "object"] true sn10 sub10 ab10 col10 dd10 ka10 kb10 kc10 kd10 ke10 "ValueError.__new__"))
    (eS10 : PySem.W.findIn K (.ref C10) "__setattr__" = some (some (.builtin "object.__setattr__")))
    (eG10 : PySem.W.findIn K (.ref C10) "__getattribute__" = some (some (.builtin "BaseException.__getattribute__")))
    (eH10 : PySem.W.findIn K (.ref C10) "__getattr__" = some none)
    (eP10 : PySem.W.findIn K (.ref C10) "place" = some none)
    (eN10 : PySem.W.findIn K (.ref C10) "name" = some none)
    (eK10 : PySem.W.keepIn K (.ref C10) = true)
    (eI10 : PySem.W.findIn K (.ref C10) "__init__" = some (some (.ref F10)))
    (eT10 : PySem.W.typeIn K (.ref F10) = some (.type "function"))
    (eB10 : PySem.W.ks_superIn K C10 C0 "__init__" = some (some (.builtin "ValueError.__init__")))
    (eC10 : PySem.W.ks_superIn K C10 C10 "__init__" = some (some (.ref F0)))
    (eL10 : K.lookup F10 = some ⟨oc_10, od_10, .func (PySem.W.ksFn "__init__" "InvalidState.__init__" (PySem.Bel.aA x10_0 x10_1) (PySem.Bel.cB "InvalidState" x10_2 x10_3 x10_4 x10_5 x10_6 x10_7 x10_8 x10_9 x10_10 x10_11) PySem.Bel.sB .none .none doc10 pm_10 an_10 (.ref cda10) ct_10 cc10), osl10⟩)
    (eD10 : PySem.W.codeIn K (.ref cda10) "InvalidState.__init__" = true)
    (eE10 : K.lookup cda10 = some ⟨ccl10, cdd10, .fields vs10, ccs10⟩)
    (eV10 : vs10[2]? = some (.str PySem.Challenge.pw_readslittle_k00_errors.main.file tf10))
    (eF10 : K.lookup cc10 = some ⟨cl10, cld10, .cell (some (.ref C10)), csl10⟩)
    (eQ10 : (x10_4.endLine == x10_6.line) = true)
    (eA11 : PySem.W.nsIn K mainGlobals "InvalidSum" = some (some (.ref C11)))
    (eX11 : K.lookup C11 = some (excClassObj "InvalidSum" q11 C11 N11 bv11 [.ref C0, .type "ValueError", .type "Exception", .type "BaseException", .type "object"] true sn11 sub11 ab11 col11 dd11 ka11 kb11 kc11 kd11 ke11 "ValueError.__new__"))
    (eS11 : PySem.W.findIn K (.ref C11) "__setattr__" = some (some (.builtin "object.__setattr__")))
    (eG11 : PySem.W.findIn K (.ref C11) "__getattribute__" = some (some (.builtin "BaseException.__getattribute__")))
    (eH11 : PySem.W.findIn K (.ref C11) "__getattr__" = some none)
    (eP11 : PySem.W.findIn K (.ref C11) "place" = some none)
    (eN11 : PySem.W.findIn K (.ref C11) "name" = some none)
    (eK11 : PySem.W.keepIn K (.ref C11) = true)
    (eI11 : PySem.W.findIn K (.ref C11) "__init__" = some (some (.ref F11)))
    (eT11 : PySem.W.typeIn K (.ref F11) = some (.type "function"))
    (eB11 : PySem.W.ks_superIn K C11 C0 "__init__" = some (some (.builtin "ValueError.__init__")))
    (eC11 : PySem.W.ks_superIn K C11 C11 "__init__" = some (some (.ref F0)))
    (eL11 : K.lookup F11 = some ⟨oc_11, od_11, .func (PySem.W.ksFn "__init__" "InvalidSum.__init__" (PySem.Bel.aA x11_0 x11_1) (PySem.Bel.cB "InvalidSum" x11_2 x11_3 x11_4 x11_5 x11_6 x11_7 x11_8 x11_9 x11_10 x11_11) PySem.Bel.sB .none .none doc11 pm_11 an_11 (.ref cda11) ct_11 cc11), osl11⟩)
    (eD11 : PySem.W.codeIn K (.ref cda11) "InvalidSum.__init__" = true)
    (eE11 : K.lookup cda11 = some ⟨ccl11, cdd11, .fields vs11, ccs11⟩)
    (eV11 : vs11[2]? = some (.str PySem.Challenge.pw_readslittle_k00_errors.main.file tf11))
    (eF11 : K.lookup cc11 = some ⟨cl11, cld11, .cell (some (.ref C11)), csl11⟩)
    (eQ11 : (x11_4.endLine == x11_6.line) = true)
    (eA12 : PySem.W.nsIn K mainGlobals "InvalidTable" = some (some (.ref C12)))
    (eX12 : K.lookup C12 = some (excClassObj "InvalidTable" q12 C12 N12 bv12 [.ref C0, .type "ValueError", .type "Exception", .type "BaseException", .type "object"] true sn12 sub12 ab12 col12 dd12 ka12 kb12 kc12 kd12 ke12 "ValueError.__new__"))
    (eS12 : PySem.W.findIn K (.ref C12) "__setattr__" = some (some (.builtin "object.__setattr__")))
    (eG12 : PySem.W.findIn K (.ref C12) "__getattribute__" = some (some (.builtin "BaseException.__getattribute__")))
    (eH12 : PySem.W.findIn K (.ref C12) "__getattr__" = some none)
    (eP12 : PySem.W.findIn K (.ref C12) "place" = some none)
    (eN12 : PySem.W.findIn K (.ref C12) "name" = some none)
    (eK12 : PySem.W.keepIn K (.ref C12) = true)
    (eI12 : PySem.W.findIn K (.ref C12) "__init__" = some (some (.ref F12)))
    (eT12 : PySem.W.typeIn K (.ref F12) = some (.type "function"))
    (eB12 : PySem.W.ks_superIn K C12 C0 "__init__" = some (some (.builtin "ValueError.__init__")))
    (eC12 : PySem.W.ks_superIn K C12 C12 "__init__" = some (some (.ref F0)))
    (eL12 : K.lookup F12 = some ⟨oc_12, od_12, .func (PySem.W.ksFn "__init__" "InvalidTable.__init__" (PySem.Bel.aA x12_0 x12_1) (PySem.Bel.cB "InvalidTable" x12_2 x12_3 x12_4 x12_5 x12_6 x12_7 x12_8 x12_9 x12_10 x12_11) PySem.Bel.sB .none .none doc12 pm_12 an_12 (.ref cda12) ct_12 cc12), osl12⟩)
    (eD12 : PySem.W.codeIn K (.ref cda12) "InvalidTable.__init__" = true)
    (eE12 : K.lookup cda12 = some ⟨ccl12, cdd12, .fields vs12, ccs12⟩)
    (eV12 : vs12[2]? = some (.str PySem.Challenge.pw_readslittle_k00_errors.main.file tf12))
    (eF12 : K.lookup cc12 = some ⟨cl12, cld12, .cell (some (.ref C12)), csl12⟩)
    (eQ12 : (x12_4.endLine == x12_6.line) = true)
    (eA13 : PySem.W.nsIn K mainGlobals "InvalidText" = some (some (.ref C13)))
    (eX13 : K.lookup C13 = some (excClassObj "InvalidText" q13 C13 N13 bv13 [.ref C0, .type "ValueError", .type "Exception", .type "BaseException", .type "object"] true sn13 sub13 ab13 col13 dd13 ka13 kb13 kc13 kd13 ke13 "ValueError.__new__"))
    (eS13 : PySem.W.findIn K (.ref C13) "__setattr__" = some (some (.builtin "object.__setattr__")))
    (eG13 : PySem.W.findIn K (.ref C13) "__getattribute__" = some (some (.builtin "BaseException.__getattribute__")))
    (eH13 : PySem.W.findIn K (.ref C13) "__getattr__" = some none)
    (eP13 : PySem.W.findIn K (.ref C13) "place" = some none)
    (eN13 : PySem.W.findIn K (.ref C13) "name" = some none)
    (eK13 : PySem.W.keepIn K (.ref C13) = true)
    (eI13 : PySem.W.findIn K (.ref C13) "__init__" = some (some (.ref F13)))
    (eT13 : PySem.W.typeIn K (.ref F13) = some (.type "function"))
    (eB13 : PySem.W.ks_superIn K C13 C0 "__init__" = some (some (.builtin "ValueError.__init__")))
    (eC13 : PySem.W.ks_superIn K C13 C13 "__init__" = some (some (.ref F0)))
    (eL13 : K.lookup F13 = some ⟨oc_13, od_13, .func (PySem.W.ksFn "__init__" "InvalidText.__init__" (PySem.Bel.aA x13_0 x13_1) (PySem.Bel.cB "InvalidText" x13_2 x13_3 x13_4 x13_5 x13_6 x13_7 x13_8 x13_9 x13_10 x13_11) PySem.Bel.sB .none .none doc13 pm_13 an_13 (.ref cda13) ct_13 cc13), osl13⟩)
    (eD13 : PySem.W.codeIn K (.ref cda13) "InvalidText.__init__" = true)
    (eE13 : K.lookup cda13 = some ⟨ccl13, cdd13, .fields vs13, ccs13⟩)
    (eV13 : vs13[2]? = some (.str PySem.Challenge.pw_readslittle_k00_errors.main.file tf13))
    (eF13 : K.lookup cc13 = some ⟨cl13, cld13, .cell (some (.ref C13)), csl13⟩)
    (eQ13 : (x13_4.endLine == x13_6.line) = true)
    (eA14 : PySem.W.nsIn K mainGlobals "InvalidWrong" = some (some (.ref C14)))
    (eX14 : K.lookup C14 = some (excClassObj "InvalidWrong" q14 C14 N14 bv14 [.ref C0, .type "ValueError", .type "Exception", .type "BaseException", .type "object"] true sn14 sub14 ab14 col14 dd14 ka14 kb14 kc14 kd14 ke14 "ValueError.__new__"))
    (eS14 : PySem.W.findIn K (.ref C14) "__setattr__" = some (some (.builtin "object.__setattr__")))
    (eG14 : PySem.W.findIn K (.ref C14) "__getattribute__" = some (some (.builtin "BaseException.__getattribute__")))
    (eH14 : PySem.W.findIn K (.ref C14) "__getattr__" = some none)
    (eP14 : PySem.W.findIn K (.ref C14) "place" = some none)
    (eN14 : PySem.W.findIn K (.ref C14) "name" = some none)
    (eK14 : PySem.W.keepIn K (.ref C14) = true)
    (eI14 : PySem.W.findIn K (.ref C14) "__init__" = some (some (.ref F14)))
    (eT14 : PySem.W.typeIn K (.ref F14) = some (.type "function"))
    (eB14 : PySem.W.ks_superIn K C14 C0 "__init__" = some (some (.builtin "ValueError.__init__")))
    (eC14 : PySem.W.ks_superIn K C14 C14 "__init__" = some (some (.ref F0)))
    (eL14 : K.lookup F14 = some ⟨oc_14, od_14, .func (PySem.W.ksFn "__init__" "InvalidWrong.__init__" (PySem.Bel.aA x14_0 x14_1) (PySem.Bel.cB "InvalidWrong" x14_2 x14_3 x14_4 x14_5 x14_6 x14_7 x14_8 x14_9 x14_10 x14_11) PySem.Bel.sB .none .none doc14 pm_14 an_14 (.ref cda14) ct_14 cc14), osl14⟩)
    (eD14 : PySem.W.codeIn K (.ref cda14) "InvalidWrong.__init__" = true)
    (eE14 : K.lookup cda14 = some ⟨ccl14, cdd14, .fields vs14, ccs14⟩)
    (eV14 : vs14[2]? = some (.str PySem.Challenge.pw_readslittle_k00_errors.main.file tf14))
    (eF14 : K.lookup cc14 = some ⟨cl14, cld14, .cell (some (.ref C14)), csl14⟩)
    (eQ14 : (x14_4.endLine == x14_6.line) = true)
    : ∃ fd : FuncData, (∀ (s : Shared) (v : Value), BindsTo s fd ⟨[v], []⟩ [("script", v)]) ∧ ∀ base : Heap, K.In base → base.Ns mainGlobals mg → FnOk PySem.Challenge.pw_readslittle_k00_errors w K mg base CX0 6 fa fd ["script"] (spLaw K) := by
  have e := hfa.symm.trans (PySem.W.mg_of X G a6)
  cases e
  have Fd0 := fun_mk (st := s_law_state) l0 c0 k0
  have b0 := Fd0.binds (ps := ["script"]) fun _ _ _ _ _ _ us hl => match us, hl with | [_], _ => rfl
  have Fd1 := fun_mk (st := s_law_draw) l1 c1 k1
  have b1 := Fd1.binds (ps := ["state", "many"]) fun _ _ _ _ _ _ us hl => match us, hl with | [_, _], _ => rfl
  have Fd2 := fun_mk (st := s_law_raised) l2 c2 k2
  have b2 := Fd2.binds (ps := ["number", "place"]) fun _ _ _ _ _ _ us hl => match us, hl with | [_, _], _ => rfl
  have Fd3 := fun_mk (st := s_law_first) l3 c3 k3
  have b3 := Fd3.binds (ps := ["number", "place"]) fun _ _ _ _ _ _ us hl => match us, hl with | [_, _], _ => rfl
  have Fd4 := fun_mk (st := s_law_last) l4 c4 k4
  have b4 := Fd4.binds (ps := ["number", "place"]) fun _ _ _ _ _ _ us hl => match us, hl with | [_, _], _ => rfl
  have Fd5 := fun_mk (st := s_law_above) l5 c5 k5
  have b5 := Fd5.binds (ps := ["number", "place"]) fun _ _ _ _ _ _ us hl => match us, hl with | [_, _], _ => rfl
  have Fd6 := fun_mk (st := s_law) l6 c6 k6
  have b6 := Fd6.binds (ps := ["script"]) fun _ _ _ _ _ _ us hl => match us, hl with | [_], _ => rfl
  have Z : ErrTop PySem.Challenge.pw_readslittle_k00_errors K mg := ⟨PySem.W.mg_none_of X G nosup, by decide +kernel, plain⟩
  obtain ⟨TB, E0⟩ := errTop (pmT := .none) X G Z eA0 eX0 eS0 eG0 eH0 eP0 eN0 eK0 eI0 eT0 eB0 eL0 eD0 eE0 eV0 eF0 eQ0
  have E1 := errSub X G Z TB eA1 eX1 eS1 eG1 eH1 eP1 eN1 eK1 eI1 eT1 eB1 eC1 eL1 eD1 eE1 eV1 eF1 eQ1
  have E2 := errSub X G Z TB eA2 eX2 eS2 eG2 eH2 eP2 eN2 eK2 eI2 eT2 eB2 eC2 eL2 eD2 eE2 eV2 eF2 eQ2
  have E3 := errSub X G Z TB eA3 eX3 eS3 eG3 eH3 eP3 eN3 eK3 eI3 eT3 eB3 eC3 eL3 eD3 eE3 eV3 eF3 eQ3
  have E4 := errSub X G Z TB eA4 eX4 eS4 eG4 eH4 eP4 eN4 eK4 eI4 eT4 eB4 eC4 eL4 eD4 eE4 eV4 eF4 eQ4
  have E5 := errSub X G Z TB eA5 eX5 eS5 eG5 eH5 eP5 eN5 eK5 eI5 eT5 eB5 eC5 eL5 eD5 eE5 eV5 eF5 eQ5
  have E6 := errSub X G Z TB eA6 eX6 eS6 eG6 eH6 eP6 eN6 eK6 eI6 eT6 eB6 eC6 eL6 eD6 eE6 eV6 eF6 eQ6
  have E7 := errSub X G Z TB eA7 eX7 eS7 eG7 eH7 eP7 eN7 eK7 eI7 eT7 eB7 eC7 eL7 eD7 eE7 eV7 eF7 eQ7
  have E8 := errSub X G Z TB eA8 eX8 eS8 eG8 eH8 eP8 eN8 eK8 eI8 eT8 eB8 eC8 eL8 eD8 eE8 eV8 eF8 eQ8
  have E9 := errSub X G Z TB eA9 eX9 eS9 eG9 eH9 eP9 eN9 eK9 eI9 eT9 eB9 eC9 eL9 eD9 eE9 eV9 eF9 eQ9
  have E10 := errSub X G Z TB eA10 eX10 eS10 eG10 eH10 eP10 eN10 eK10 eI10 eT10 eB10 eC10 eL10 eD10 eE10 eV10 eF10 eQ10
  have E11 := errSub X G Z TB eA11 eX11 eS11 eG11 eH11 eP11 eN11 eK11 eI11 eT11 eB11 eC11 eL11 eD11 eE11 eV11 eF11 eQ11
  have E12 := errSub X G Z TB eA12 eX12 eS12 eG12 eH12 eP12 eN12 eK12 eI12 eT12 eB12 eC12 eL12 eD12 eE12 eV12 eF12 eQ12
  have E13 := errSub X G Z TB eA13 eX13 eS13 eG13 eH13 eP13 eN13 eK13 eI13 eT13 eB13 eC13 eL13 eD13 eE13 eV13 eF13 eQ13
  have E14 := errSub X G Z TB eA14 eX14 eS14 eG14 eH14 eP14 eN14 eK14 eI14 eT14 eB14 eC14 eL14 eD14 eE14 eV14 eF14 eQ14
  refine ⟨PySem.W.fnOf "law" "law" (defArgs s_law) (defBody s_law) (defScope s_law) .none kV6 dc6 pm6 an6 cd6 ct6, fun s v => .of_eq rfl, fun base _ _ => ?_⟩
  have T : Txt K mg := ⟨PySem.W.mg_none_of X G n_len, PySem.W.mg_none_of X G n_int, PySem.W.mg_none_of X G n_abs, PySem.W.mg_none_of X G n_range⟩
  have ER : Errs PySem.Challenge.pw_readslittle_k00_errors K mg (fun i => [C1, C2, C3, C4, C5, C6, C7, C8, C9, C10, C11, C12, C13, C14].getD i 0) C0 := ⟨fun i hi => by
    have : i = 0 ∨ i = 1 ∨ i = 2 ∨ i = 3 ∨ i = 4 ∨ i = 5 ∨ i = 6 ∨ i = 7 ∨ i = 8 ∨ i = 9 ∨ i = 10 ∨ i = 11 ∨ i = 12 ∨ i = 13 := by omega
    rcases this with rfl | rfl | rfl | rfl | rfl | rfl | rfl | rfl | rfl | rfl | rfl | rfl | rfl | rfl
    · exact E1
    · exact E2
    · exact E3
    · exact E4
    · exact E5
    · exact E6
    · exact E7
    · exact E8
    · exact E9
    · exact E10
    · exact E11
    · exact E12
    · exact E13
    · exact E14, E0⟩
  have G1 : OkD PySem.Challenge.pw_readslittle_k00_errors w K mg base CX0 "_law_state" 2 (spState K) := okD_of X G a0 Fd0 b0 (ok_state Fd0 T)
  have G2 : OkD PySem.Challenge.pw_readslittle_k00_errors w K mg base CX0 "_law_draw" 2 (spDraw _ K mg) := okD_of X G a1 Fd1 b1 (ok_draw Fd1 T)
  have G3 : OkD PySem.Challenge.pw_readslittle_k00_errors w K mg base (L2.CX _ w) "_law_raised" 4 (spD _ K mg raisedT) := okD_of X G a2 Fd2 b2 (ok_raised Fd2 ER)
  have G4 : OkD PySem.Challenge.pw_readslittle_k00_errors w K mg base CX0 "_law_first" 5 (spD _ K mg caughtT) := okD_of X G a3 Fd3 b3 (ok_law_first Fd3 ER G3)
  have G5 : OkD PySem.Challenge.pw_readslittle_k00_errors w K mg base CX0 "_law_last" 5 (spD _ K mg caughtT) := okD_of X G a4 Fd4 b4 (ok_law_last Fd4 ER G3)
  have G6 : OkD PySem.Challenge.pw_readslittle_k00_errors w K mg base CX0 "_law_above" 5 (spD _ K mg aboveT) := okD_of X G a5 Fd5 b5 (ok_law_above Fd5 ER G3)
  exact ok_law Fd6 T G1 G2 G4 G5 G6
theorem walk {q : Program} {loose : List Str} {XP : (Str → Option Value) → Heap → Prop} {YP : World → Heap → Prop} {d : DefRec} {K : Params → PySem.W.Frag} (hdf : d.params.defaults = [])
    (hY : ∀ (w : World) (h : Heap), YP w h → (K w.params).In h)
    (F : ∀ (w : World) (mg : Str → Option Value) (fa : Addr) (h : Heap), (K w.params).In h → h.Ns mainGlobals mg → mg d.name = some (.ref fa) →
      ∃ fd : FuncData, (∀ (s : Shared) (u : Value), BindsTo s fd ⟨[u], []⟩ [("script", u)]) ∧ ∀ base : Heap, (K w.params).In base → base.Ns mainGlobals mg → FnOk PySem.Challenge.pw_readslittle_k00_errors w (K w.params) mg base CX0 6 fa fd ["script"] (spLaw (K w.params))) :
    PySem.W.WalkO q loose XP YP PySem.Challenge.rw_readslittle_k00_errors.row.toRowW d [] (fun f vs => PySem.call f vs) :=
  L2.walk_of (l := PySem.Challenge.rw_readslittle_k00_errors) (n := 63) (k := 6) (x := "script") (CX := fun _ => CX0) (sp := fun w => spLaw (K w.params)) rfl (by decide) hdf ⟨rfl, by decide, by decide⟩ hY F (fun _ _ a ns hl _ hS => ⟨a, ns, rfl, hS, hl, fun _ => rfl⟩) fun _ _ _ _ _ z => z
end K
open PySem PySem.W PyProof.Rows
set_option maxRecDepth 100000 in
set_option maxHeartbeats 0 in
theorem PySem.Challenge.cw_readslittle_k00_errors_holds : PySem.Challenge.rw_readslittle_k00_errors.Holds := by
  w_on; o_law; k_head; (case hw => w_witness2)
  k_fill
  refine K.walk rfl (fun w h Y => PySem.W.kIn_of Y) ?F
  case F =>
    intro w mg fa h KX G hmg
    refine' K.all_mk KX G hmg ?a0 ?l0 ?c0 ?k0 ?a1 ?l1 ?c1 ?k1 ?a2 ?l2 ?c2 ?k2 ?a3 ?l3 ?c3 ?k3 ?a4 ?l4 ?c4 ?k4 ?a5 ?l5 ?c5 ?k5 ?a6 ?l6 ?c6 ?k6 ?n_len ?n_int ?n_abs ?n_range ?nosup ?plain ?eA0 ?eX0 ?eS0 ?eG0 ?eH0 ?eP0 ?eN0 ?eK0 ?eI0 ?eT0 ?eB0 ?eL0 ?eD0 ?eE0 ?eV0 ?eF0 ?eQ0 ?eA1 ?eX1 ?eS1 ?eG1 ?eH1 ?eP1 ?eN1 ?eK1 ?eI1 ?eT1 ?eB1 ?eC1 ?eL1 ?eD1 ?eE1 ?eV1 ?eF1 ?eQ1 ?eA2 ?eX2 ?eS2 ?eG2 ?eH2 ?eP2 ?eN2 ?eK2 ?eI2 ?eT2 ?eB2 ?eC2 ?eL2 ?eD2 ?eE2 ?eV2 ?eF2 ?eQ2 ?eA3 ?eX3 ?eS3 ?eG3 ?eH3 ?eP3 ?eN3 ?eK3 ?eI3 ?eT3 ?eB3 ?eC3 ?eL3 ?eD3 ?eE3 ?eV3 ?eF3 ?eQ3 ?eA4 ?eX4 ?eS4 ?eG4 ?eH4 ?eP4 ?eN4 ?eK4 ?eI4 ?eT4 ?eB4 ?eC4 ?eL4 ?eD4 ?eE4 ?eV4 ?eF4 ?eQ4 ?eA5 ?eX5 ?eS5 ?eG5 ?eH5 ?eP5 ?eN5 ?eK5 ?eI5 ?eT5 ?eB5 ?eC5 ?eL5 ?eD5 ?eE5 ?eV5 ?eF5 ?eQ5 ?eA6 ?eX6 ?eS6 ?eG6 ?eH6 ?eP6 ?eN6 ?eK6 ?eI6 ?eT6 ?eB6 ?eC6 ?eL6 ?eD6 ?eE6 ?eV6 ?eF6 ?eQ6 ?eA7 ?eX7 ?eS7 ?eG7 ?eH7 ?eP7 ?eN7 ?eK7 ?eI7 ?eT7 ?eB7 ?eC7 ?eL7 ?eD7 ?eE7 ?eV7 ?eF7 ?eQ7 ?eA8 ?eX8 ?eS8 ?eG8 ?eH8 ?eP8 ?eN8 ?eK8 ?eI8 ?eT8 ?eB8 ?eC8 ?eL8 ?eD8 ?eE8 ?eV8 ?eF8 ?eQ8 ?eA9 ?eX9 ?eS9 ?eG9 ?eH9 ?eP9 ?eN9 ?eK9 ?eI9 ?eT9 ?eB9 ?eC9 ?eL9 ?eD9 ?eE9 ?eV9 ?eF9 ?eQ9 ?eA10 ?eX10 ?eS10 ?eG10 ?eH10 ?eP10 ?eN10 ?eK10 ?eI10 ?eT10 ?eB10 ?eC10 ?eL10 ?eD10 ?eE10 ?eV10 ?eF10 ?eQ10 ?eA11 ?eX11 ?eS11 ?eG11 ?eH11 ?eP11 ?eN11 ?eK11 ?eI11 ?eT11 ?eB11 ?eC11 ?eL11 ?eD11 ?eE11 ?eV11 ?eF11 ?eQ11 ?eA12 ?eX12 ?eS12 ?eG12 ?eH12 ?eP12 ?eN12 ?eK12 ?eI12 ?eT12 ?eB12 ?eC12 ?eL12 ?eD12 ?eE12 ?eV12 ?eF12 ?eQ12 ?eA13 ?eX13 ?eS13 ?eG13 ?eH13 ?eP13 ?eN13 ?eK13 ?eI13 ?eT13 ?eB13 ?eC13 ?eL13 ?eD13 ?eE13 ?eV13 ?eF13 ?eQ13 ?eA14 ?eX14 ?eS14 ?eG14 ?eH14 ?eP14 ?eN14 ?eK14 ?eI14 ?eT14 ?eB14 ?eC14 ?eL14 ?eD14 ?eE14 ?eV14 ?eF14 ?eQ14
    (case a0 => k_is)
    (case l0 => k_is)
    (case c0 => k_is)
    (case k0 => k_is)
    (case a1 => k_is)
    (case l1 => k_is)
    (case c1 => k_is)
    (case k1 => k_is)
    (case a2 => k_is)
    (case l2 => k_is)
    (case c2 => k_is)
    (case k2 => k_is)
    (case a3 => k_is)
    (case l3 => k_is)
    (case c3 => k_is)
    (case k3 => k_is)
    (case a4 => k_is)
    (case l4 => k_is)
    (case c4 => k_is)
    (case k4 => k_is)
    (case a5 => k_is)
    (case l5 => k_is)
    (case c5 => k_is)
    (case k5 => k_is)
    (case a6 => k_is)
    (case l6 => k_is)
    (case c6 => k_is)
    (case k6 => k_is)
    (case n_len => k_is)
    (case n_int => k_is)
    (case n_abs => k_is)
    (case n_range => k_is)
    (case nosup => k_is)
    (case plain => k_is)
    (case eA0 => k_is)
    (case eX0 => k_is)
    (case eS0 => k_is)
    (case eG0 => k_is)
    (case eH0 => k_is)
    (case eP0 => k_is)
    (case eN0 => k_is)
    (case eK0 => k_is)
    (case eI0 => k_is)
    (case eT0 => k_is)
    (case eB0 => ks_is)
    (case eL0 => k_is)
    (case eD0 => k_is)
    (case eE0 => k_is)
    (case eV0 => rfl)
    (case eF0 => k_is)
    (case eQ0 => rfl)
    (case eA1 => k_is)
    (case eX1 => k_is)
    (case eS1 => k_is)
    (case eG1 => k_is)
    (case eH1 => k_is)
    (case eP1 => k_is)
    (case eN1 => k_is)
    (case eK1 => k_is)
    (case eI1 => k_is)
    (case eT1 => k_is)
    (case eB1 => ks_is)
    (case eC1 => ks_is)
    (case eL1 => k_is)
    (case eD1 => k_is)
    (case eE1 => k_is)
    (case eV1 => rfl)
    (case eF1 => k_is)
    (case eQ1 => rfl)
    (case eA2 => k_is)
    (case eX2 => k_is)
    (case eS2 => k_is)
    (case eG2 => k_is)
    (case eH2 => k_is)
    (case eP2 => k_is)
    (case eN2 => k_is)
    (case eK2 => k_is)
    (case eI2 => k_is)
    (case eT2 => k_is)
    (case eB2 => ks_is)
    (case eC2 => ks_is)
    (case eL2 => k_is)
    (case eD2 => k_is)
    (case eE2 => k_is)
    (case eV2 => rfl)
    (case eF2 => k_is)
    (case eQ2 => rfl)
    (case eA3 => k_is)
    (case eX3 => k_is)
    (case eS3 => k_is)
    (case eG3 => k_is)
    (case eH3 => k_is)
    (case eP3 => k_is)
    (case eN3 => k_is)
    (case eK3 => k_is)
    (case eI3 => k_is)
    (case eT3 => k_is)
    (case eB3 => ks_is)
    (case eC3 => ks_is)
    (case eL3 => k_is)
    (case eD3 => k_is)
    (case eE3 => k_is)
    (case eV3 => rfl)
    (case eF3 => k_is)
    (case eQ3 => rfl)
    (case eA4 => k_is)
    (case eX4 => k_is)
    (case eS4 => k_is)
    (case eG4 => k_is)
    (case eH4 => k_is)
    (case eP4 => k_is)
    (case eN4 => k_is)
    (case eK4 => k_is)
    (case eI4 => k_is)
    (case eT4 => k_is)
    (case eB4 => ks_is)
    (case eC4 => ks_is)
    (case eL4 => k_is)
    (case eD4 => k_is)
    (case eE4 => k_is)
    (case eV4 => rfl)
    (case eF4 => k_is)
    (case eQ4 => rfl)
    (case eA5 => k_is)
    (case eX5 => k_is)
    (case eS5 => k_is)
    (case eG5 => k_is)
    (case eH5 => k_is)
    (case eP5 => k_is)
    (case eN5 => k_is)
    (case eK5 => k_is)
    (case eI5 => k_is)
    (case eT5 => k_is)
    (case eB5 => ks_is)
    (case eC5 => ks_is)
    (case eL5 => k_is)
    (case eD5 => k_is)
    (case eE5 => k_is)
    (case eV5 => rfl)
    (case eF5 => k_is)
    (case eQ5 => rfl)
    (case eA6 => k_is)
    (case eX6 => k_is)
    (case eS6 => k_is)
    (case eG6 => k_is)
    (case eH6 => k_is)
    (case eP6 => k_is)
    (case eN6 => k_is)
    (case eK6 => k_is)
    (case eI6 => k_is)
    (case eT6 => k_is)
    (case eB6 => ks_is)
    (case eC6 => ks_is)
    (case eL6 => k_is)
    (case eD6 => k_is)
    (case eE6 => k_is)
    (case eV6 => rfl)
    (case eF6 => k_is)
    (case eQ6 => rfl)
    (case eA7 => k_is)
    (case eX7 => k_is)
    (case eS7 => k_is)
    (case eG7 => k_is)
    (case eH7 => k_is)
    (case eP7 => k_is)
    (case eN7 => k_is)
    (case eK7 => k_is)
    (case eI7 => k_is)
    (case eT7 => k_is)
    (case eB7 => ks_is)
    (case eC7 => ks_is)
    (case eL7 => k_is)
    (case eD7 => k_is)
    (case eE7 => k_is)
    (case eV7 => rfl)
    (case eF7 => k_is)
    (case eQ7 => rfl)
    (case eA8 => k_is)
    (case eX8 => k_is)
    (case eS8 => k_is)
    (case eG8 => k_is)
    (case eH8 => k_is)
    (case eP8 => k_is)
    (case eN8 => k_is)
    (case eK8 => k_is)
    (case eI8 => k_is)
    (case eT8 => k_is)
    (case eB8 => ks_is)
    (case eC8 => ks_is)
    (case eL8 => k_is)
    (case eD8 => k_is)
    (case eE8 => k_is)
    (case eV8 => rfl)
    (case eF8 => k_is)
    (case eQ8 => rfl)
    (case eA9 => k_is)
    (case eX9 => k_is)
    (case eS9 => k_is)
    (case eG9 => k_is)
    (case eH9 => k_is)
    (case eP9 => k_is)
    (case eN9 => k_is)
    (case eK9 => k_is)
    (case eI9 => k_is)
    (case eT9 => k_is)
    (case eB9 => ks_is)
    (case eC9 => ks_is)
    (case eL9 => k_is)
    (case eD9 => k_is)
    (case eE9 => k_is)
    (case eV9 => rfl)
    (case eF9 => k_is)
    (case eQ9 => rfl)
    (case eA10 => k_is)
    (case eX10 => k_is)
    (case eS10 => k_is)
    (case eG10 => k_is)
    (case eH10 => k_is)
    (case eP10 => k_is)
    (case eN10 => k_is)
    (case eK10 => k_is)
    (case eI10 => k_is)
    (case eT10 => k_is)
    (case eB10 => ks_is)
    (case eC10 => ks_is)
    (case eL10 => k_is)
    (case eD10 => k_is)
    (case eE10 => k_is)
    (case eV10 => rfl)
    (case eF10 => k_is)
    (case eQ10 => rfl)
    (case eA11 => k_is)
    (case eX11 => k_is)
    (case eS11 => k_is)
    (case eG11 => k_is)
    (case eH11 => k_is)
    (case eP11 => k_is)
    (case eN11 => k_is)
    (case eK11 => k_is)
    (case eI11 => k_is)
    (case eT11 => k_is)
    (case eB11 => ks_is)
    (case eC11 => ks_is)
    (case eL11 => k_is)
    (case eD11 => k_is)
    (case eE11 => k_is)
    (case eV11 => rfl)
    (case eF11 => k_is)
    (case eQ11 => rfl)
    (case eA12 => k_is)
    (case eX12 => k_is)
    (case eS12 => k_is)
    (case eG12 => k_is)
    (case eH12 => k_is)
    (case eP12 => k_is)
    (case eN12 => k_is)
    (case eK12 => k_is)
    (case eI12 => k_is)
    (case eT12 => k_is)
    (case eB12 => ks_is)
    (case eC12 => ks_is)
    (case eL12 => k_is)
    (case eD12 => k_is)
    (case eE12 => k_is)
    (case eV12 => rfl)
    (case eF12 => k_is)
    (case eQ12 => rfl)
    (case eA13 => k_is)
    (case eX13 => k_is)
    (case eS13 => k_is)
    (case eG13 => k_is)
    (case eH13 => k_is)
    (case eP13 => k_is)
    (case eN13 => k_is)
    (case eK13 => k_is)
    (case eI13 => k_is)
    (case eT13 => k_is)
    (case eB13 => ks_is)
    (case eC13 => ks_is)
    (case eL13 => k_is)
    (case eD13 => k_is)
    (case eE13 => k_is)
    (case eV13 => rfl)
    (case eF13 => k_is)
    (case eQ13 => rfl)
    (case eA14 => k_is)
    (case eX14 => k_is)
    (case eS14 => k_is)
    (case eG14 => k_is)
    (case eH14 => k_is)
    (case eP14 => k_is)
    (case eN14 => k_is)
    (case eK14 => k_is)
    (case eI14 => k_is)
    (case eT14 => k_is)
    (case eB14 => ks_is)
    (case eC14 => ks_is)
    (case eL14 => k_is)
    (case eD14 => k_is)
    (case eE14 => k_is)
    (case eV14 => rfl)
    (case eF14 => k_is)
    (case eQ14 => rfl)
