import PyProof.Rows.All
import HandS.ExcInit
import HandS.ExcSuper
import KE.KExcSuper
import KE.KSuper
import HandS.ExcValue
import HandS.ExcField
import HandS.ExcIs
import KE.KExcMore
import KE.KExcIs
import HandS.ForMost
import HandS.ExcCtx
import HandS.Lambda
import HandS.IsInst
import HandS.TupMul
import HandS.TupAny
import HandS.Style
import HandS.SortInts
import HandS.WordsExc
import HandS.Zip
import HandS.SetFor
import HandS.Deep
import KE.DataMinMax
import KE.SortData
import PyProof.ListStr
import KE.KTupSum
import KE.GoesMore
import PyProof.EnumMake
import PyProof.Draws
import HandS.Iter
import HandS.TryOnly
import PyProof.CompUse
import HandS.HotCalls
import HandS.Defaults
import HandS.Strs
import HandS.CallLocal
import KE.KStateDown
import Lean
import HandS.Ends
import HandS.More
import HandS.Words
import HandS.Head0
import HandS.Head1
import HandS.Head2
import HandS.HeadEnd
import HandS.HeadHook1
import HandS.HeadHook2
import HandS.HeadHook3
import HandS.HeadHook4
import HandS.HeadWalk
import HandS.NestedK
import PySem.Challenge.RW_wheelinbalance_k14_classes_of_errors
set_option Elab.async false
set_option linter.all false
set_option maxRecDepth 100000
set_option maxHeartbeats 2000000
namespace MP
open PySem PySem.Spec PyProof.Rows L2
section
open PySem.W PySem.ESX
variable {prog : Program} {w : World} {A : Around} {E : Value → Shared → Prop} {h : Heap} {g : Array GenState} {d : Drawn} {t : Nat} {os : OsState}
variable {nm q : Str} {C N : Addr} {bs bm : List Value} {hdct : Bool} {sn : List Str} {sub : List Value} {ab : Bool} {col : Option Bool} {dd : Option Addr} {k0 k1 k2 k3 k5 : Option Value}
/-- the bound ValueError.__init__, called -/
theorem call_mwV {u e t0 : Addr} {rest : List Value} {Q : Value → Shared → Prop}
    (hC : h.get? C = some (excClassObj nm q C N bs bm hdct sn sub ab col dd k0 k1 k2 k3 k5 "ValueError.__new__")) (he : h.get? e = some (HandSPX.excO C t0)) (hu : h.get? u = some (kxs_mw "ValueError.__init__" e)) (hrest : rest.length ≤ sizeLine)
    (hq : ∀ h' t1, (∀ b o, b ≠ e → h.get? b = some o → h'.get? b = some o) → h'.get? e = some (HandSPX.excO C t1) → Q .none ⟨h', g, d, t, os⟩) :
    wpAny (model prog w) A (call (.ref u) rest) Q E ⟨h, g, d, t, os⟩ := by
  refine wpAny_call (codeAny_of_tree ?_)
  show wpAny _ A.in1 (callAny (.ref u) ⟨rest, []⟩) _ _ _
  simp only [callAny]
  refine wpAny_bind (wpAny_load hu ?_)
  simp only [kxs_mw, show (Value.type "method-wrapper" == Value.type "method" || Value.type "method-wrapper" == Value.type "builtin_function_or_method" || Value.type "method-wrapper" == Value.type "method-wrapper") = true by decide, if_true]
  refine KFB.if_so (by decide) ?_
  refine wpAny_bind (check_bound F.excBase_ValueError hC he rfl ?_)
  refine wpAny_bind (wpAny_pure (wpAny_pure ?_))
  refine ⟨Code.quiet_builtin _ (by decide +kernel), codeAny_builtin F.excBase_ValueError.initEntry ?_⟩
  rw [Around.under_plainId F.excBase_ValueError.init.plain _]
  wp_walk
  refine hq _ h.objs.size (fun b o hb ho => ?_) ?_
  · rw [Heap.get?_update_other _ _ (Ne.symm hb)]
    exact Heap.get?_push_of_some _ ho
  · rw [Heap.get?_update_self _ (Heap.get?_push_of_some _ he) rfl]
    rfl
end
/-- what the written part says of TooMany -/
structure TmF (P : Program) (K : PySem.W.Frag) (C cc cda : Addr) : Prop where
  oex : OexC K C
  ve : PySem.W.subIn K (.ref C) (.type "ValueError") = some true
  self : PySem.W.mroIn K C (.ref C) = some true
  up : PySem.W.ks_superIn K C C "__init__" = some (some (.builtin "ValueError.__init__"))
  opq : PySem.W.nsIn K cStatics "thirdparty.any" = some none
  lim : PySem.W.findIn K (.ref C) "limit" = some none
  cell : ∃ cl cld csl, K.lookup cc = some ⟨cl, cld, .cell (some (.ref C)), csl⟩
  code : ∃ ccl cdd vs ccs file tf, K.lookup cda = some ⟨ccl, cdd, .fields vs, ccs⟩ ∧ vs[2]? = some (.str file tf) ∧ ((P.main.file : Str) == file) = true
  top : (P.main.scope.names.lookup ("super" : Str)).isSome = false
/-- its promise -/
def spTm (C : Addr) : Sp := fun vs H Q _ => ∃ a n, vs = [.ref a, .int n] ∧ H a = some (exo a C none) ∧ ∀ dx, H dx = none → dx ≠ a → Q .non (upd (upd H dx (exd dx [("limit", .int n)])) a (exo a C (some dx)))
structure TmS (scope : Scope) : Prop where
  kind : scope.kind = .function
  co : scope.isCoroutine = false
  gen : scope.isGenerator = false
  nocell : ∀ x ∈ scope.names, x.2 ≠ .cell
  sup : scope.names.lookup ("super" : Str) = some .globalImplicit
  cls : scope.names.lookup ("__class__" : Str) = some .free
  slf : scope.names.lookup ("self" : Str) = some .local
  lim : scope.names.lookup ("limit" : Str) = some .local
theorem cw1 {M : Model} {A : Around} {E : Value → Shared → Prop} {s : Shared} {u x : Addr} {i : String} {pos : Pos} {env : Env} {e : Expr} {rest : List Expr} {Q : Value → Shared → Prop}
    (h : wpAny M A (spliced (backTo pos (starEach (e :: rest) env))) (fun vs s₁ => PySem.W.KxsAt i u x s₁.heap ∧ wpAny M A (call (.ref u) vs) Q E s₁) E s)
    (he : starEach (e :: rest) env = (false, eval e env) :: starEach rest env := by rfl) (hplain : (backTo pos (starEach rest env)).any (·.1) = false := by rfl) :
    wpAny M A (callWith pos (.ref u) [] (backTo pos (starEach (e :: rest) env)) []) Q E s := by
  rw [he] at h ⊢
  refine PySem.W.kxs_callWith (i := i) (x := x) (by show (false || (backTo pos (starEach rest env)).any (·.1)) = false; rw [hplain]; rfl) ?_
  exact Calls.evalArgs_plain h
theorem mcp {o : Expr} {env : Env} {p2 p4 : Pos} (hl : (p2.endLine == p4.line) = true) : methodCallPos true o env p2 p4 = pure p4 := by
  unfold methodCallPos
  rw [hl]
  rfl
theorem mcall {o : Expr} {name msg : Str} {env : Env} {p2 p3 p4 : Pos} {kc : Nat} (hl : (p2.endLine == p4.line) = true) :
    eval (.Call (.Attribute o name p2) [.Constant (.str msg) kc p3] [] p4) env = (do
      let ov ← attributeBase o name env (eval o env)
      standAt p2.atName
      let (f, first) ← holding [ov] (getMethod ov name (do return (← importBound o env).getD true))
      callWith p4 f first (backTo p4 (starEach [.Constant (.str msg) kc p3] env)) []) := by
  show (do
    let ov ← attributeBase o name env (eval o env)
    standAt p2.atName
    methodCall o name p2 p4 env ov 1 (backTo p4 (starEach [.Constant (.str msg) kc p3] env)) []) = _
  unfold methodCall
  have e : methodCallForm 1 (backTo p4 (starEach [.Constant (.str msg) kc p3] env)) [] = true := rfl
  simp only [e, mcp hl]
  rfl
theorem int_f {env : Env} (h : env.scope.kind = .function) : interactive env = false := by
  unfold interactive
  rw [h]
  rfl
theorem tm_init {P : Program} {w : World} {K : PySem.W.Frag} {mg : Str → Option Value} {base : Heap} {CX : CXT} {k : Nat} {C f cc cda : Addr} {name qual msg : Str} {params : Arguments} {scope : Scope} {dV kV doc pm ct oc : Value} {an od : Option Addr} {osl : Array (Option Value)} {ar : Arg}
    {p0 p1 p2 p3 p4 p5 q0 q1 q2 q3 : Pos} {kc : Nat} (hpl : (p2.endLine == p4.line) = true) (T : TmF P K C cc cda) (S : TmS scope) (hms : mg "super" = none)
    (hp : (params.posonlyargs ++ params.args).head? = some ar) (har : ar.arg = "self")
    (lk : K.lookup f = some ⟨oc, od, .func (PySem.W.ksFn name qual params [.Expr (.Call (.Attribute (.Call (.Name "super" p0) [] [] p1) "__init__" p2) [.Constant (.str msg) kc p3] [] p4) p5, .Assign [.Attribute (.Name "self" q0) "limit" q1] (.Name "limit" q2) q3] scope dV kV doc pm an (.ref cda) ct cc), osl⟩)
    (hcd : PySem.W.codeIn K (.ref cda) qual = true) :
    FnOk P w K mg base CX (k + 1) f (PySem.W.ksFn name qual params [.Expr (.Call (.Attribute (.Call (.Name "super" p0) [] [] p1) "__init__" p2) [.Constant (.str msg) kc p3] [] p4) p5, .Assign [.Attribute (.Name "self" q0) "limit" q1] (.Name "limit" q2) q3] scope dV kV doc pm an (.ref cda) ct cc) ["self", "limit"] (spTm C) := by
  refine ⟨fun vs H Q E h => ?_, fun A outer s H args us vs Q E hr e0 hb r hsp => ?_⟩
  · obtain ⟨a, n, rfl, _⟩ := h
    rfl
  obtain ⟨a, n, rfl, ha, hq⟩ := hsp
  have KX : K.In s.heap := e0.mod.kin.keeps fun b o e => (e0.bs b o e).1
  have lim : s.heap.NoLimit := e0.mod.nolimit.keeps fun b o e => (e0.bs b o e).1
  have hgl : s.heap.Ns mainGlobals mg := e0.mod.glob.keeps fun b o e => (e0.bs b o e).1
  obtain ⟨mb, hbl0, hbx⟩ := e0.mod.blt
  have hbl : s.heap.Ns builtinsNs mb := hbl0.keeps fun b o e => (e0.bs b o e).1
  obtain ⟨nm, q, N, bs, bm, sn, sub, ab, col, dd, k0, k1, k2, k3, k5, hC, hbm⟩ := T.oex.cls
  have hcl : PySem.W.clsIn K C = some { name := nm, bases := bs, mro := .ref C :: bm, ns := N, qualname := q, hasDict := true, slotNames := sn, subclasses := sub, abstract := ab, collection := col, hasDel := false } := by
    unfold PySem.W.clsIn
    rw [hC] <;> rfl
  have hup : PySem.W.alongIn K "__init__" (((Value.ref C :: bm).dropWhile (· != .ref C)).drop 1) = some (some (.builtin "ValueError.__init__")) := by
    have z := T.up
    unfold PySem.W.ks_superIn at z
    rw [hcl] at z
    exact z
  obtain ⟨cl, cld, csl, hcell⟩ := T.cell
  obtain ⟨ccl, cdd, cvs, ccs, file, tf, hcode, hvs, hfile⟩ := T.code
  obtain ⟨t0, hoa⟩ := exo_at e0.hok ha
  cases r with
  | @cons _ ua _ ur ra rr =>
  obtain rfl : ua = Value.ref a := ra
  cases rr with
  | @cons _ un _ ur2 rn rr2 =>
  cases rr2
  obtain ⟨tn, rfl⟩ : ∃ t, un = Value.int n t := rn
  obtain ⟨hp0, g, d, tk, os⟩ := s
  refine ks_codeAny_call_defAt (binds := (["self", "limit"] : List Str).zip [Value.ref a, Value.int n tn]) hr.depth (KX _ _ lk) rfl lim (PySem.W.codeRec_of KX hcd) rfl hb S.nocell (fun y hy => ?_) (fun h1 hns hk1 => ?_) S.co S.gen S.kind
  · simp only [List.zip_cons_cons, List.zip_nil_right, List.mem_cons, List.not_mem_nil, or_false] at hy
    rcases hy with rfl | rfl
    · exact S.slf
    · exact S.lim
  have X1 : K.In h1 := KX.keeps hk1
  have hns : h1.Ns hp0.objs.size (fun x => ([("limit", Value.int n tn), ("self", Value.ref a)] : List (Str × Value)).lookup x) := hns
  have haL : a < hp0.objs.size := Heap.lt_size hoa
  show _root_.PySem.wpAt (model P w) (A.deeper (PySem.W.ksEnv qual scope hp0.objs.size f (.ref cda) cc)) (.func _ (PySem.W.ksEnv qual scope hp0.objs.size f (.ref cda) cc)) (execs [_, _] (PySem.W.ksEnv qual scope hp0.objs.size f (.ref cda) cc)) _ _ ⟨h1, g, d, tk + 2, os⟩
  refine ks_wpAt_execs_cons (ks_wpAt_Expr_any (hi := int_f (env := PySem.W.ksEnv qual scope hp0.objs.size f (.ref cda) cc) S.kind) (ks_wpAt_MethodCall (he := mcall hpl) ?_))
  refine ks_wpAt_super_base S.sup S.cls rfl rfl (X1 _ _ lk) rfl hp rfl (X1 _ _ hcode) rfl hvs hfile T.top ?_
  refine PySem.W.ks_loadName_global S.kind S.sup (Calls.loadGlobal_builtin (env := PySem.W.ksEnv qual scope hp0.objs.size f (.ref cda) cc) (hgl.keeps hk1) hms (hbl.keeps hk1) ((hbx _ (by decide +kernel)).trans (by decide +kernel : bootBuiltins "super" = some (.type "super"))) ⟨rfl, ?_⟩)
  refine wpAny_loadName_free S.kind S.cls rfl ⟨_, X1 _ _ hcell, rfl⟩ ?_
  refine wpAny_loadName_local S.kind (by rw [har]; exact S.slf) hns (by rw [har]; rfl) ?_
  refine ks_wpAny_isType_cls (X1 _ _ hC) rfl ⟨rfl, ?_⟩
  refine ks_wpAny_call_super (X1 _ _ hC) rfl (hk1 _ _ hoa) rfl (fun c e => nomatch e) (PySem.W.looks_mroIn X1 T.self) (fun h2 e2 k2 => ?_)
  have X2 : K.In h2 := X1.keeps k2
  have ha2 := k2 _ _ (hk1 _ _ hoa)
  have I2 : PySem.W.InstAt h2 a _ C none := ⟨ha2, rfl, rfl, trivial⟩
  refine PySem.W.kxs_getMethod PySem.W.kxs_ValueError e2 (PySem.W.looks_opaque X2 T.opq) (fun A Q E s k q => wpAny_bind ((PySem.W.looks_clsIn X2 hcl) A _ E s k (wpAny_pure q))) rfl X2 hup (I2.type.andThen (PySem.W.looks_subIn X2 T.ve)) (PySem.W.ks_ne X2 I2 hcl) rfl ?_
  have e3 : (h2.push (PySem.W.kxs_mw "ValueError.__init__" a)).get? h2.objs.size = some (PySem.W.kxs_mw "ValueError.__init__" a) := Heap.get?_push_at rfl rfl
  have k3 : ∀ b o, h2.get? b = some o → (h2.push (PySem.W.kxs_mw "ValueError.__init__" a)).get? b = some o := fun b o e => Heap.get?_push_of_some _ e
  generalize h2.push (PySem.W.kxs_mw "ValueError.__init__" a) = h3 at e3 k3 ⊢
  have X3 : K.In h3 := X2.keeps k3
  have ha3 := k3 _ _ ha2
  refine cw1 (i := "ValueError.__init__") (x := a) (Calls.spliced_cons (wpAny_Constant_str (pos := p3) (k := kc) (Calls.spliced_nil ⟨e3, ?_⟩)))
  refine call_mwV (X3 _ _ hC) ha3 e3 (by rw [sizeLine_eq]; exact (Nat.le_of_ble_eq_true rfl : 1 ≤ 16777216)) (fun h4 t1 k4 e4 => ?_)
  have X4 : K.In h4 := fun b o z => by
    have hb3 := X3 b o z
    refine k4 b o (fun e => ?_) hb3
    subst e
    have := (e0.bs b o (e0.mod.kin b o z)).2
    rw [ha] at this
    cases this
  have k14 : ∀ b o, b ≠ a → h1.get? b = some o → h4.get? b = some o := fun b o hb e => k4 b o hb (k3 _ _ (k2 _ _ e))
  have hns4 : h4.Ns hp0.objs.size (fun x => ([("limit", Value.int n tn), ("self", Value.ref a)] : List (Str × Value)).lookup x) := by
    obtain ⟨o, es, ep, q1, q2⟩ := hns
    exact ⟨o, es, ep, k14 _ _ (Nat.ne_of_gt haL) q1, q2⟩
  refine ks_wpAt_execs_cons (ks_wpAt_Assign_Attr ?_)
  refine _root_.PySem.wpAt_of_wpAny (wpAny_Name (wpAny_loadName_local S.kind S.lim hns4 rfl ?_))
  refine wpAny_Name (wpAny_loadName_local S.kind S.slf hns4 rfl ?_)
  refine PySem.W.set_plain X4 (ox := HandSPX.excO C t1) (od := none) ⟨e4, rfl, rfl, trivial⟩ T.oex.sa ?_
  refine HandSPX.exc_osa X4 e4 hcl (show HandSPX.refsVE (.ref C :: bm) = true from hbm) rfl T.lim (fun h5 tk5 dx k5 dn dne hx hn => ?_)
  have dn' : h4.objs.size ≤ dx := dn
  have k05 : ∀ b o, b ≠ a → hp0.get? b = some o → h5.get? b = some o := fun b o hb e => k5 b o hb (k14 b o hb (hk1 _ _ e))
  have hle : hp0.objs.size ≤ dx := by
    have : hp0.objs.size < h4.objs.size := by
      obtain ⟨o, es, ep, q1, q2⟩ := hns4
      exact Heap.lt_size q1
    omega
  have hnd : H dx = none := e0.hok.fresh hle
  have nd : ∀ {b : Addr} {o : Obj}, hp0.get? b = some o → b ≠ dx := fun {b o} q => Nat.ne_of_lt (Nat.lt_of_lt_of_le (Heap.lt_size q) hle)
  have na : ∀ {b : Addr}, H b = none → b ≠ a := fun {b} n z => by
    rw [z, ha] at n
    cases n
  refine _root_.PySem.wpAt_of_wpAny (wpAny_pure ?_)
  refine ⟨.non, upd (upd H dx (exd dx [("limit", .int n)])) a (exo a C (some dx)), rfl, e0.bare, ?_, fun b o q => ?_, rfl, hq dx hnd dne⟩
  · exact {
      keep := fun b o q n _ _ => k05 b o (na n) q
      slot := fun b o q n _ _ => ⟨o.slots, k05 b o (na n) q⟩
      free := fun b o q n _ => by rw [upd_ne (na n), upd_ne (nd q)]; exact n
      there := fun b o q _ => by
        by_cases hb : b = a
        · exact ⟨_, by rw [hb]; exact hx⟩
        · exact ⟨o, k05 b o hb q⟩
      tups := fun b xs q => by rw [upd_ne (at_ne ha q exo_tup), upd_ne (ne_of_none q hnd)]; exact q
      frzs := fun b o v q => by rw [upd_ne (at_ne ha q exo_frz), upd_ne (ne_of_none q hnd)]; exact q
      tbls := fun b ps q => ⟨#[], by rw [upd_ne (at_ne ha q exo_tbl), upd_ne (ne_of_none q hnd), q]; simp⟩ }
  · by_cases hb : b = a
    · subst hb
      rw [upd_same] at q
      cases q
      exact exo_ok hx
    · rw [upd_ne hb] at q
      by_cases hd : b = dx
      · subst hd
        rw [upd_same] at q
        cases q
        exact exd_ok hn (relO_put (fs := []) ⟨tn, rfl⟩ fun g => True.intro)
      · rw [upd_ne hd] at q
        exact (e0.hok b o q).stay (fun c v hc z => k05 c v (by
            rcases hc with hc | hc
            · rw [hc]
              exact hb
            · exact at_ne ha hc exo_own) z)
          (fun c hc => by rw [upd_ne (at_ne ha hc exo_own), upd_ne (ne_of_none hc hnd)]; exact hc) (fun c xs hc => by rw [upd_ne (at_ne ha hc exo_tup), upd_ne (ne_of_none hc hnd)]; exact hc)
end MP
set_option Elab.async false
set_option linter.all false
set_option maxRecDepth 100000
set_option maxHeartbeats 2000000
namespace MP
open PySem PySem.Spec PyProof.Rows L2
/-- at a: a plain exception of the class at C, its arguments at t -/
def exm (a C t : Addr) : HO := .ext fun h => h.get? a = some (HandSPX.excO C t)
theorem exm_ok {P : Program} {w : World} {H : Hp} {h : Heap} {a C t : Addr} (e : h.get? a = some (HandSPX.excO C t)) : ObjOk P w H h a (exm a C t) := ⟨e, ⟨_, e⟩, fun _ _ q k => k _ q⟩
theorem exm_tbl {a C t : Addr} {ps : Array Value} : exm a C t ≠ .tbl ps := fun z => by
  have z' : HO.ext _ = HO.tbl ps := z
  cases z'
theorem exd_tbl {e : Addr} {fs : List (Str × V)} {ps : Array Value} : exd e fs ≠ .tbl ps := fun z => by
  have z' : HO.ext _ = HO.tbl ps := z
  cases z'
theorem exm_at {P : Program} {w : World} {H : Hp} {h : Heap} {a C t : Addr} (hok : HOk P w H h) (e : H a = some (exm a C t)) : h.get? a = some (HandSPX.excO C t) := by
  have x : ObjOk P w H h a (.ext fun h => h.get? a = some (HandSPX.excO C t)) := hok a _ e
  exact x.1
section
variable {fs ex : List Addr} {H : Hp} {h h' : Heap} {a b : Addr} {o u : HO}
theorem un_laid2 (k : ∀ b u, h.get? b = some u → h'.get? b = some u) (ha : h.get? a = none) (hb : h.get? b = none) (na : H a = none) (nb : H b = none) : Un fs ex H (upd (upd H b u) a o) h h' where
  keep := fun c z q _ _ _ => k c z q
  slot := fun c z q _ _ _ => ⟨z.slots, k c z q⟩
  free := fun c z q n _ => by rw [upd_ne (fun y => by rw [y, ha] at q; cases q), upd_ne (fun y => by rw [y, hb] at q; cases q)]; exact n
  there := fun c z q _ => ⟨z, k c z q⟩
  tups := fun c xs q => by rw [upd_ne (ne_of_none q na), upd_ne (ne_of_none q nb)]; exact q
  frzs := fun c z xs q => by rw [upd_ne (ne_of_none q na), upd_ne (ne_of_none q nb)]; exact q
  tbls := fun c ps q => ⟨#[], by rw [upd_ne (ne_of_none q na), upd_ne (ne_of_none q nb), q]; simp⟩
theorem hok_laid2 {P : Program} {w : World} (x : HOk P w H h) (k : ∀ b u, h.get? b = some u → h'.get? b = some u) (na : H a = none) (nb : H b = none) (ne : b ≠ a) (xa : ObjOk P w (upd (upd H b u) a o) h' a o) (xb : ObjOk P w (upd (upd H b u) a o) h' b u) : HOk P w (upd (upd H b u) a o) h' := fun c z e => by
  by_cases hc : c = a
  · subst hc
    rw [upd_same] at e
    cases e
    exact xa
  · by_cases hd : c = b
    · subst hd
      rw [upd_ne hc, upd_same] at e
      cases e
      exact xb
    · rw [upd_ne hc, upd_ne hd] at e
      exact (x c z e).stay (fun c v _ q => k c v q) (fun c q => by rw [upd_ne (ne_of_none q na), upd_ne (ne_of_none q nb)]; exact q) fun c xs q => by rw [upd_ne (ne_of_none q na), upd_ne (ne_of_none q nb)]; exact q
end
section
variable {X : Cx}
/-- X(e), X an exception class without own __init__, e a text, as a value -/
def tEx (C : Addr) (ta : TA) : TE := fun σ H Q => ta σ H fun vs H1 => ∃ z, vs = [.str z] ∧ ∀ a t, H1 a = none → H1 t = none → t ≠ a → Q (.ref a) (upd (upd H1 t (.tup [.str z])) a (exm a C t))
theorem pe_exv {C : Addr} {bmB : List Value} {B newId initId : String} {x : Str} {e : Expr} {es : List Expr} {ta : TA} {p pos : Pos} (F : ExcBaseFacts B newId initId bmB) (q : PySem.W.excIn X.K C bmB newId = true) (gC : X.mg x = some (.ref C)) (kC : PySem.W.keepIn X.K (.ref C) = true) (hg : Gl X x) (hdb : (x == ("__debug__" : Str)) = false)
    (ha : PA X (e :: es) ta) (he : starEach (e :: es) X.env = (false, eval e X.env) :: starEach es X.env) (hpl : (backTo pos (starEach es X.env)).any (·.1) = false) :
    PE X (.Call (.Name x p) (e :: es) [] pos) (tEx C ta) := by
  refine ⟨fun pins s σ H Q I h => ?_⟩
  refine wpAny_Call_Name_kw (ld_glob I hg gC ?_ hdb)
  refine PySem.W.callWith_K (h₀ := X.base) I.ok.mod.kin kC (thn (ha.run pos pins s σ H _ I h) fun us s1 ⟨vs, H1, I1, r1, q1⟩ => ⟨I1.kIn, ?_⟩) he hpl
  show wpAny _ _ (call (.ref C) us) _ _ _
  obtain ⟨z, rfl, q1⟩ := q1
  obtain ⟨u, rfl, ru⟩ := vals1 r1
  obtain ⟨bm, N, nm, qn, bs, hdct, sn, sub, ab, col, dd, k0, k1, k2, k3, k5, mN, hC, hN, hni, T⟩ := exc_obj I1.kIn q
  refine wpAny_call_exc_subT F T hC hN hni (fun h' a hm => ?_) (by rw [sizeLine_eq]; exact (Nat.le_of_ble_eq_true rfl : 1 ≤ 16777216))
  have hn : H1 a = none := I1.hok.gone hm.new
  obtain ⟨t, ht, hnt, htt⟩ := hm.there
  have hnt' : H1 t = none := I1.hok.gone hnt
  have hne : t ≠ a := fun e => by
    rw [e, ht] at htt
    cases htt
  have xa : ObjOk X.prog X.w (upd (upd H1 t (.tup [.str z])) a (exm a C t)) h' a (exm a C t) := exm_ok ht
  have xb : ObjOk X.prog X.w (upd (upd H1 t (.tup [.str z])) a (exm a C t)) h' t (.tup [.str z]) := ⟨by rw [sizeLine_eq]; exact (Nat.le_of_ble_eq_true rfl : 1 ≤ 16777216), _, .cons ru .nil, _, htt, rfl, _, rfl⟩
  exact ⟨.ref a, _, I1.un (un_laid2 hm.keeps hm.new hnt hn hnt') (hok_laid2 I1.hok hm.keeps hn hnt' hne xa xb), rfl, q1 a t hn hnt' hne⟩
/-- isinstance(x, c), x such an exception -/
def exHas (H : Hp) (a C : Addr) : Prop := (∃ t, H a = some (exm a C t)) ∨ ∃ dx fs, H a = some (exo a C (some dx)) ∧ H dx = some (exd dx fs)
theorem exHas_at {pins : List (Addr × Obj)} {σ : L2.St} {H : Hp} {s : Shared} {a C : Addr} (I : Inv X pins σ H s) (h : exHas H a C) : ∃ o od, PySem.W.InstAt s.heap a o C od := by
  rcases h with ⟨t, h⟩ | ⟨dx, fs, h1, h2⟩
  · exact ⟨_, none, exm_at I.hok h, rfl, rfl, trivial⟩
  · obtain ⟨t1, e⟩ := exo_at I.hok h1
    obtain ⟨mA, hn, _⟩ := exd_at I.hok h2
    obtain ⟨od, ho, _⟩ := lookIn_ns hn
    exact ⟨_, some od, e, rfl, rfl, ho⟩
def rIsX (K : PySem.W.Frag) (D : Value) : List V → Hp → VK → Prop := fun xs H Q => ∃ (a C : Addr) (c : V) (b : Bool), xs = [.ref a, c] ∧ (∀ u, RelV c u → u = D) ∧ exHas H a C ∧ ExcC K C ∧ PySem.W.kitOne K (.ref C) D = some b ∧ Q (.bl b) H
theorem call_isX {D : Value} : CallR X (.builtin "isinstance") (rIsX X.K D) := by
  intro pins s σ H xs us Q I r h
  obtain ⟨a, C, c, b, rfl, hcv, hx, T, e, q⟩ := h
  obtain ⟨u1, u2, rfl, rx, rt⟩ := vals2 r
  cases rx
  obtain rfl := hcv _ rt
  obtain ⟨o, od, J⟩ := exHas_at I hx
  have hcl : (PySem.W.clsIn X.K C).isSome = true := by
    have := T.hd
    unfold PySem.W.hasDictIn at this
    cases q : PySem.W.clsIn X.K C with
    | none => rw [q] at this; cases this
    | some _ => rfl
  exact PySem.W.kia_one (PySem.W.kitx_exc hcl T.hg T.hk T.hs T.ha T.hn T.ht T.hm) I.kIn J e (fun z => nomatch z) fun tk => ⟨.bl b, H, I.kept (t' := tk) fun _ _ z => z, rfl, q⟩
/-- str(x), x a plain exception with one text -/
def rStX (K : PySem.W.Frag) : List V → Hp → VK → Prop := fun xs H Q => ∃ (a C t : Addr) (z : Str), xs = [.ref a] ∧ H a = some (exm a C t) ∧ H t = some (.tup [.str z]) ∧ PySem.W.findIn K (.ref C) "__str__" = some (some (.builtin "BaseException.__str__")) ∧ PySem.W.subIn K (.ref C) (.type "BaseException") = some true ∧ Q (.str z) H
theorem call_strX (hu : X.A.units + 2 < cLine) : CallR X (.type "str") (rStX X.K) := by
  intro pins s σ H xs us Q I r h
  obtain ⟨a, C, t, z, rfl, h1, h2, hs, hB, q⟩ := h
  obtain ⟨u, rfl, r1⟩ := vals1 r
  cases r1
  have ha := exm_at I.hok h1
  obtain ⟨_, its, rv, o, ho, hc, n, hd⟩ := I.hok t _ h2
  obtain ⟨u, rfl, tk, rfl⟩ := vals1 rv
  exact PySem.P.str_of_C_one hu ⟨I.kIn, _, _, ha, rfl, rfl, rfl⟩ ⟨o, n, ho, hc, hd⟩ hs hB ⟨.str z, H, I, ⟨tk, rfl⟩, q⟩
/-- x.n, x an exception with its dict -/
def tAtX (n : Str) (te : TE) : TE := fun σ H Q => te σ H fun x H1 => ∃ (a C dx : Addr) (fs : List (Str × V)) (v : V), x = .ref a ∧ H1 a = some (exo a C (some dx)) ∧ H1 dx = some (exd dx fs) ∧ XfC X.K C ∧ PySem.W.findIn X.K (.ref C) n = some none ∧ fs.lookup n = some v ∧ Q v H1
theorem pe_atx {e : Expr} {te : TE} {n : Str} {pos : Pos} (he : PE X e te) (hb : attributeBase e n X.env (eval e X.env) = eval e X.env) : PE X (.Attribute e n pos) (tAtX (X := X) n te) := by
  refine ⟨fun pins s σ H Q I h => ?_⟩
  refine attr_of hb (thn (he.run pins s σ H _ I h) fun u s1 hh => ?_)
  obtain ⟨x, H1, I1, rx, a, C, dx, fs, v, ex, h1, h2, T, hno, l, q⟩ := hh
  subst ex
  obtain rfl : u = Value.ref a := rx
  obtain ⟨t1, ha⟩ := exo_at I1.hok h1
  obtain ⟨mA, hns, hr⟩ := exd_at I1.hok h2
  obtain ⟨od, ho, hl⟩ := lookIn_ns hns
  obtain ⟨u, hu, ru⟩ := RelO.some_of (v := v) (o := mA n) (by rw [← l]; exact hr n)
  have J : PySem.W.InstAt s1.heap a _ C (some od) := ⟨ha, rfl, rfl, ho⟩
  exact HandSPX.exc_get I1.kIn J T.ga T.gg T.exC (PySem.W.findObj_own T.hdC hno rfl (by rw [hl, hu])) (handed_of ru) ⟨v, H1, I1.tok _, ru, q⟩
/-- TooMany(e), as a value -/
def tTm (C : Addr) (ta : TA) : TE := fun σ H Q => ta σ H fun vs H1 => ∃ n, vs = [.int n] ∧ ∀ a dx, H1 a = none → H1 dx = none → dx ≠ a → Q (.ref a) (upd (upd (upd H1 a (exo a C none)) dx (exd dx [("limit", .int n)])) a (exo a C (some dx)))
theorem pe_tm {CX : CXT} {x : Str} {C fI : Addr} {k : Nat} {fd : FuncData} {e : Expr} {es : List Expr} {ta : TA} {p pos : Pos} (T : OexC X.K C) (iC : PySem.W.findIn X.K (.ref C) "__init__" = some (some (.ref fI))) (tI : PySem.W.typeIn X.K (.ref fI) = some (.type "function"))
    (F1 : FnOk X.prog X.w X.K X.mg X.base CX k fI fd ["self", "limit"] (spTm C)) (hr : Room (k + 1) X.A) (hb : Binds X.K fd ["self", "limit"] []) (hx : Passes CX X (fun _ _ _ => False)) (hg : Gl X x) (hm : X.mg x = some (.ref C)) (ha : PA X (e :: es) ta)
    (hdb : (x == ("__debug__" : Str)) = false) (he : starEach (e :: es) X.env = (false, eval e X.env) :: starEach es X.env) (hpl : (backTo pos (starEach es X.env)).any (·.1) = false) :
    PE X (.Call (.Name x p) (e :: es) [] pos) (tTm C ta) := by
  refine ⟨fun pins s σ H Q I h => ?_⟩
  obtain ⟨nm, q, N, bs, bm, sn, sub, ab, col, dd, k0, k1, k2, k3, k5, hC, hbm⟩ := T.cls
  refine wpAny_Call_Name_kw (ld_glob I hg hm ?_ hdb)
  refine PySem.W.callWith_K (h₀ := X.base) I.ok.mod.kin T.kC (thn (ha.run pos pins s σ H _ I h) fun us s1 ⟨vs, H1, I1, r1, q1⟩ => ⟨I1.kIn, ?_⟩) he hpl
  show wpAny _ _ (call (.ref C) us) _ _ _
  obtain ⟨n, rfl, q1⟩ := q1
  obtain ⟨hp, g, dr, tk, os⟩ := s1
  have hsz : hp.objs.size ≤ hp.objs.size + 1 := Nat.le_succ _
  have hn : H1 (hp.objs.size + 1) = none := I1.hok.fresh hsz
  have kk : ∀ b o, hp.get? b = some o → ((hp.push (PySem.W.kdv_tup us)).push (PySem.HandSPX.excO C hp.objs.size)).get? b = some o := fun b o e => Heap.get?_push_of_some _ (Heap.get?_push_of_some _ e)
  have hget : ((hp.push (PySem.W.kdv_tup us)).push (PySem.HandSPX.excO C hp.objs.size)).get? (hp.objs.size + 1) = some (PySem.HandSPX.excO C hp.objs.size) := by heap_get
  have I2 : Inv X pins σ (upd H1 (hp.objs.size + 1) (exo (hp.objs.size + 1) C none)) ⟨(hp.push (PySem.W.kdv_tup us)).push (PySem.HandSPX.excO C hp.objs.size), g, dr, tk, os⟩ :=
    I1.laid (t' := tk) (a := hp.objs.size + 1) (o := exo (hp.objs.size + 1) C none) (h' := (hp.push (PySem.W.kdv_tup us)).push (PySem.HandSPX.excO C hp.objs.size)) kk hsz (exo_ok hget)
  have r2 : Vals (V.ref (hp.objs.size + 1) :: [V.int n]) (Value.ref (hp.objs.size + 1) :: us) := .cons rfl r1
  have hl : (Value.ref (hp.objs.size + 1) :: us).length = 2 := r2.length.symm
  have hus : us.length ≤ sizeLine := by
    rw [← Paired.length r1, sizeLine_eq]
    exact (Nat.le_of_ble_eq_true rfl : 1 ≤ 16777216)
  have hq : spTm C (V.ref (hp.objs.size + 1) :: [V.int n]) (upd H1 (hp.objs.size + 1) (exo (hp.objs.size + 1) C none)) (fun v H' => v = .non ∧ Q (.ref (hp.objs.size + 1)) H') (fun _ _ _ => False) := ⟨_, n, rfl, upd_same, fun dx h1 h2 => ⟨rfl, q1 _ dx hn (by rw [upd_ne h2] at h1; exact h1) h2⟩⟩
  refine wpAny_call (PySem.HandSPX.call_own F.excBase_ValueError (fun Y => PySem.HandSPX.refsVE_contains Y bm hbm) (I1.kIn _ _ hC) (PySem.W.looks_findIn I1.kIn iC) (fun self => PySem.W.bind_fn I1.kIn self tI) hus
    (codeAny_mono (F1.run _ X.stack _ _ ⟨Value.ref (hp.objs.size + 1) :: us, []⟩ (Value.ref (hp.objs.size + 1) :: us) _ _ (fun _ _ _ => False) (hr.make C us []) (I2.env0.make C us []) (by have z := hb _ (Value.ref (hp.objs.size + 1) :: us) I2.kIn (by rw [List.append_nil]; exact hl); rw [List.append_nil] at z; exact z) r2 hq) fun r s' hq' => ?_))
  cases r with
  | error er => exact hx pins σ _ _ er s' I2 hq'
  | ok fl =>
    cases fl with
    | ret u =>
      obtain ⟨v, H2, os2, bare2, un2, hok2, rv, ev, q2⟩ := hq'
      subst ev
      exact ⟨rv, .ref (hp.objs.size + 1), H2, I2.call' (ch := []) os2 un2 hok2 bare2 (fun b z => absurd z (by simp)), rfl, q2⟩
    | next => exact False.elim hq'
    | brk => exact False.elim hq'
    | cont => exact False.elim hq'
end
end MP
set_option Elab.async false
set_option linter.all false
set_option maxRecDepth 100000
namespace MP
open PySem PySem.Spec PyProof.Rows

abbrev D := PyData
/-- the n-th object of the store; what the module's name x stands for -/
abbrev dref (n : Nat) : D := .dict [(.int n, .none)]
abbrev dgl (x : Str) : D := .dict [(.str x, .none)]
inductive Ob where
  | ml (xs : List D)
  | dead
abbrev Sto := List Ob
abbrev Rho := List (Option D)
inductive Res (α : Type) where
  | ok (a : α) (s : Sto)
  | exc (c : Str) (s : Sto)
  | bad
namespace Res
def bind {α β : Type} (r : Res α) (f : α → Sto → Res β) : Res β := match r with
  | .ok a s => f a s
  | .exc c s => .exc c s
  | .bad => .bad
def lift {α : Type} (o : Option α) (s : Sto) : Res α := match o with
  | some a => .ok a s
  | none => .bad
@[simp] theorem bind_ok {α β : Type} (a : α) (s : Sto) (f : α → Sto → Res β) : (Res.ok a s).bind f = f a s := rfl
@[simp] theorem bind_exc {α β : Type} (c : Str) (s : Sto) (f : α → Sto → Res β) : (Res.exc c s : Res α).bind f = .exc c s := rfl
@[simp] theorem bind_bad {α β : Type} (f : α → Sto → Res β) : (Res.bad : Res α).bind f = .bad := rfl
@[simp] theorem lift_some {α : Type} (a : α) (s : Sto) : Res.lift (some a) s = .ok a s := rfl
@[simp] theorem lift_none {α : Type} (s : Sto) : Res.lift (none : Option α) s = .bad := rfl
end Res
inductive Fl where
  | nx (ρ : Rho) | rt (d : D) | bk (ρ : Rho) | ct (ρ : Rho)

def LIM : Nat := 16777216
def small (i : Int) : Bool := decide (i.natAbs < 2 ^ 64)

mutual
def noref : D → Bool
  | .dict [(.str _, _)] => true
  | .dict _ => false
  | .list xs => norefs xs
  | .tuple xs => norefs xs
  | _ => true
def norefs : List D → Bool
  | [] => true
  | x :: xs => noref x && norefs xs
end

/-- the signs of a text -/
def chars (s : Str) : List D := s.cps.toList.map fun c => .str ⟨#[c]⟩
def rep {α : Type} (k : Int) (xs : List α) : List α := (List.replicate k.toNat xs).flatten
def binop (op : Operator) (x y : D) : Option D := match op, x, y with
  | .Add, .int i, .int j => some (.int (i + j))
  | .Add, .str a, .str b => if a.length + b.length ≤ LIM then some (.str (a ++ b)) else none
  | .Add, .list a, .list b => if a.length + b.length ≤ LIM then some (.list (a ++ b)) else none
  | .Add, .tuple a, .tuple b => if a.length + b.length ≤ LIM then some (.tuple (a ++ b)) else none
  | .Sub, .int i, .int j => some (.int (i - j))
  | .Mult, .int i, .int j => if small i || small j then some (.int (i * j)) else none
  | .Mult, .list a, .int k => if decide (k < 1000) && decide (a.length ≤ 1000) && decide (-1000 < k) then some (.list (rep k a)) else none
  | .Mult, .tuple a, .int k => if decide (k < 1000) && decide (a.length ≤ 1000) && decide (-1000 < k) && !a.isEmpty then some (.tuple (rep k a)) else none
  | .Mult, .str z, .int k => if decide (z.length ≤ 1000) && decide (0 ≤ k) && decide (k ≤ 1000) then some (.str (Txt.mul z k)) else none
  | .FloorDiv, .int i, .int j => if decide (0 < j) && decide (j < 1073741824) then some (.int (i / j)) else none
  | .Mod, .int i, .int j => if decide (0 < j) then some (.int (i % j)) else none
  | .Pow, .int i, .int j => if decide (0 ≤ j) && decide (j ≤ 1000000) && small i then some (.int (i ^ j.toNat)) else none
  | _, _, _ => none
def isFlat : D → Bool
  | .none => true | .bool _ => true | .int _ => true | .str _ => true | _ => false
def okEq (x y : D) : Bool := SeqAt.shaped x && SeqAt.shaped y
def dInts : List D → Option (List Int)
  | [] => some []
  | .int i :: r => (dInts r).map (i :: ·)
  | _ => none
def ordT (x y : D) : Option (List Int × List Int) := match x, y with
  | .tuple xs, .tuple ys => (match dInts xs, dInts ys with
    | some a, some b => some (a, b)
    | _, _ => none)
  | _, _ => none
def cmpop (op : CmpOp) (x y : D) : Option Bool := match op with
  | .Eq => if okEq x y then some (PyData.eqv x y) else none
  | .NotEq => if okEq x y then some (!PyData.eqv x y) else none
  | .Lt => match x, y with
    | .int i, .int j => some (decide (i < j))
    | x, y => (ordT x y).map fun p => HT.lexLt p.1 p.2
  | .LtE => match x, y with
    | .int i, .int j => some (decide (i ≤ j))
    | _, _ => none
  | .Gt => match x, y with
    | .int i, .int j => some (decide (j < i))
    | _, _ => none
  | .GtE => match x, y with
    | .int i, .int j => some (decide (j ≤ i))
    | _, _ => none
  | .In => match x, y with
    | .str x, .str z => (match x.cps.toList with
      | [c] => some (decide (c ∈ z.cps.toList))
      | _ => none)
    | x, .list ys => if isFlat x && ys.all isFlat then some (ys.any fun z => PyData.eqv z x) else none
    | x, .tuple ys => if isFlat x && ys.all isFlat then some (ys.any fun z => PyData.eqv z x) else none
    | _, _ => none
  | .NotIn => match x, y with
    | .str x, .str z => (match x.cps.toList with
      | [c] => some (!decide (c ∈ z.cps.toList))
      | _ => none)
    | x, .list ys => if isFlat x && ys.all isFlat then some (!ys.any fun z => PyData.eqv z x) else none
    | x, .tuple ys => if isFlat x && ys.all isFlat then some (!ys.any fun z => PyData.eqv z x) else none
    | _, _ => none
  | .Is => match x, y with
    | .none, .none => some true
    | _, .none => some false
    | .bool a, .bool b => some (a == b)
    | _, _ => none
  | .IsNot => match x, y with
    | .none, .none => some false
    | _, .none => some true
    | .bool a, .bool b => some (!(a == b))
    | _, _ => none

/-- what stands behind in: a made list as it is now -/
def lookS (op : CmpOp) (y : D) (st : Sto) : D := match op, y with
  | .In, .dict [(.int n, .none)] => (match st[n.toNat]? with
    | some (.ml xs) => if 0 ≤ n then .list xs else y
    | _ => y)
  | .NotIn, .dict [(.int n, .none)] => (match st[n.toNat]? with
    | some (.ml xs) => if 0 ≤ n then .list xs else y
    | _ => y)
  | _, y => y
/-- what a method is called of: a made list as it is now, for count -/
def cntS (m : Str) (x : D) (st : Sto) : D := if m = "count" then lookS .In x st else x
def nth {α : Type} (xs : List α) (i : Int) : Option α := L2.atI xs i
def cut {α : Type} (xs : List α) (lo hi : Option Int) : List α := (xs.drop (HT.sIx xs.length 0 lo)).take (HT.sIx xs.length xs.length hi - HT.sIx xs.length 0 lo)
def item (o i : D) (st : Sto) : Option D := match o, i with
  | .list xs, .int i => nth xs i
  | .tuple xs, .int i => nth xs i
  | .str z, .int i => if z.length ≤ LIM then (nth z.cps.toList i).map fun c => .str ⟨#[c]⟩ else none
  | .dict [(.int n, .none)], .int i => match st[n.toNat]? with
    | some (.ml xs) => if 0 ≤ n then nth xs i else none
    | _ => none
  | _, _ => none
def sliced (o : D) (lo hi : Option Int) : Option D := match o with
  | .list xs => some (.list (cut xs lo hi))
  | .tuple xs => some (.tuple (cut xs lo hi))
  | .str z => if z.length ≤ LIM then some (.str (L2.cutS z lo hi)) else none
  | _ => none
/-- o[i] = v -/
def putItem (o i v : D) (st : Sto) : Option Sto := match o, i with
  | .dict [(.int n, .none)], .int i => match st[n.toNat]? with
    | some (.ml xs) => match L2.ixN xs.length i with
      | some j => if decide (0 ≤ n) && noref v then some (st.set n.toNat (.ml (xs.set j v))) else none
      | none => none
    | _ => none
  | _, _ => none
def appItem (o v : D) (st : Sto) : Option Sto := match o with
  | .dict [(.int n, .none)] => match st[n.toNat]? with
    | some (.ml xs) => if decide (0 ≤ n) && noref v && decide (xs.length < LIM) then some (st.set n.toNat (.ml (xs ++ [v]))) else none
    | _ => none
  | _ => none

def dBools : List D → Option (List Bool)
  | [] => some []
  | .bool i :: r => (dBools r).map (i :: ·)
  | _ => none
def dStrs : List D → Option (List Str)
  | [] => some []
  | .str i :: r => (dStrs r).map (i :: ·)
  | _ => none
def alikes (xs : List D) : Bool := xs.all fun x => xs.all fun y => W.alike x y
def deepOk (xs : List D) : Bool := decide (PyData.depthAll xs ≤ 40)
def sortable (xs : List D) : Bool := (xs.all fun d => match d with | .tuple (_ :: _) => true | _ => false) || (xs.all fun d => match d with | .none => false | .tuple _ => false | _ => true)
def isNone : D → Bool
  | .none => true
  | _ => false
/-- these can be put in order -/
def ordOk (xs : List D) : Bool := alikes xs && deepOk xs && PyData.canLayAll0 xs && xs.all (fun d => !isNone d)
def uniq : List Int → List Int
  | [] => []
  | x :: xs => if x ∈ xs then uniq xs else x :: uniq xs
def bi (f : Str) (ds : List D) : Option D :=
  if f = "len" then (match ds with
    | [.list xs] => some (.int xs.length)
    | [.tuple xs] => some (.int xs.length)
    | [.str s] => if s.length ≤ LIM then some (.int s.length) else none
    | _ => none)
  else if f = "all" then (match ds with
    | [.list xs] => (dBools xs).map fun bs => .bool (bs.all id)
    | _ => none)
  else if f = "any" then (match ds with
    | [.list xs] => (dBools xs).map fun bs => .bool (bs.any id)
    | _ => none)
  else if f = "sum" then (match ds with
    | [.list xs] => (dInts xs).map fun bs => .int bs.sum
    | [.tuple xs] => (dInts xs).map fun bs => .int bs.sum
    | _ => none)
  else if f = "tuple" then (match ds with
    | [.list xs] => some (.tuple xs)
    | [.tuple xs] => some (.tuple xs)
    | _ => none)
  else if f = "list" then (match ds with
    | [.list xs] => some (.list xs)
    | [.tuple xs] => some (.list xs)
    | [.str z] => if z.length ≤ LIM then some (.list (chars z)) else none
    | _ => none)
  else if f = "int" then (match ds with
    | [.int i] => some (.int i)
    | [.bool b] => some (.int (if b then 1 else 0))
    | [.str a] => match intText? a with
      | some n => if a.length ≤ 640 then some (.int n) else none
      | none => none
    | _ => none)
  else if f = "str" then (match ds with
    | [.int i] => if i.natAbs.log2 < 1920 then some (.str (toString i)) else none
    | _ => none)
  else if f = "min" then (match ds with
    | [.int i, .int j] => some (.int (if j < i then j else i))
    | [.list (x :: xs)] => if ordOk (x :: xs) then some (W.minD x xs) else none
    | [.tuple (x :: xs)] => if ordOk (x :: xs) then some (W.minD x xs) else none
    | _ => none)
  else if f = "max" then (match ds with
    | [.int i, .int j] => some (.int (if j > i then j else i))
    | [.list (x :: xs)] => if ordOk (x :: xs) then some (W.maxD x xs) else none
    | [.tuple (x :: xs)] => if ordOk (x :: xs) then some (W.maxD x xs) else none
    | _ => none)
  else if f = "sorted" then (match ds with
    | [.list xs] => if ordOk xs && sortable xs && decide (xs.length ≤ LIM) then some (.list (xs.mergeSort (W.dataLe false id))) else none
    | _ => none)
  else none
def insU (x : Int) : List Int → List Int
  | [] => [x]
  | y :: ys => if x < y then x :: y :: ys else if x = y then y :: ys else y :: insU x ys
def sortU : List Int → List Int
  | [] => []
  | x :: xs => insU x (sortU xs)
/-- sorted(set(x)) -/
def sortSet (x : D) : Option D := match x with
  | .list xs => (match dInts xs with
    | some ns => if ns.length ≤ 60 ∧ (sortU ns).length ≤ LIM then some (.list ((sortU ns).map .int)) else none
    | none => none)
  | _ => none
def isKind (d : D) (t : Str) : Option Bool :=
  let k : Option Str := match d with
    | .none => some "NoneType" | .bool _ => some "bool" | .int _ => some "int" | .str _ => some "str" | .list _ => some "list" | .tuple _ => some "tuple" | _ => none
  match k with
  | none => none
  | some k => if t = "int" then some (decide (k = "int") || decide (k = "bool"))
    else if t = "bool" then some (decide (k = "bool"))
    else if t = "str" then some (decide (k = "str"))
    else if t = "list" then some (decide (k = "list"))
    else if t = "tuple" then some (decide (k = "tuple"))
    else none
def meth (m : Str) (o : D) (ds : List D) : Option D :=
  if m = "split" then (match o, ds with
    | .str a, [.str b] => if decide (b.length ≠ 0) && decide (a.length + 2 ≤ LIM) && decide ((Txt.split a b).length ≤ LIM) then some (.list ((Txt.split a b).map .str)) else none
    | _, _ => none)
  else if m = "join" then (match o, ds with
    | .str a, [.list xs] => match dStrs xs with
      | some ys => if (ys.map (·.length)).sum + ys.length * a.length ≤ 16777216 then some (.str (Txt.join a ys)) else none
      | none => none
    | _, _ => none)
  else if m = "count" then (match o, ds with
    | .list xs, [.int k] => (dInts xs).map fun is => .int (is.count k : Nat)
    | _, _ => none)
  else none

/-- may x.m(..) be called -/
def rcv (m : Str) (x : D) (st : Sto) : Bool :=
  if m = "append" then (match x with
    | .dict [(.int n, .none)] => (match st[n.toNat]? with
      | some (.ml _) => decide (0 ≤ n)
      | _ => false)
    | _ => false)
  else if m = "count" then (match x with
    | .list _ => true
    | .dict [(.int n, .none)] => (match st[n.toNat]? with
      | some (.ml _) => decide (0 ≤ n)
      | _ => false)
    | _ => false)
  else (match x with
    | .str _ => true
    | _ => false)

structure Sta where
  isDef : Str → Bool
  isExc : Str → Bool
  isHnd : Str → Bool
  /-- further names that are called, isinstance's own classes, attributes that are read -/
  isX : Str → Bool := fun _ => false
  isCls : Str → Bool := fun _ => false
  isAt : Str → Bool := fun _ => false
structure Glb extends Sta where
  call : Str → List D → Sto → Res D
  cst : Str → Option D
  hnd : Str → Option D
  mkr : Pos → Bool
  frz : Pos → Bool
  xap : Str → List D → Option D := fun _ _ => none
  isub : Str → Str → Option Bool := fun _ _ => none
  atf : Str → D → Option D := fun _ _ => none
/-- isinstance of an exception -/
def isEx (sub : Str → Str → Option Bool) (t : Str) (x : D) : Option Bool := match x with
  | .dict [(.str c, .str _)] => sub c t
  | .dict [(.str c, .int _)] => sub c t
  | _ => none
instance : Coe Glb Sta := ⟨Glb.toSta⟩
/-- inside a lambda that is caught: no catcher -/
def Sta.noH (G : Sta) : Sta := { G with isHnd := fun _ => false }
def Glb.noH (G : Glb) : Glb := { G with toSta := G.toSta.noH }
def slot : List Str → Str → Option Nat
  | [], _ => none
  | y :: r, x => if y = x then some 0 else (slot r x).map (· + 1)
def ownSl (N : List Str) (scope : Scope) : List (Str × Nat) := scope.names.filterMap fun y => match y.2 with
  | .local => (slot N y.1).map fun i => (y.1, i)
  | .cell => (slot N y.1).map fun i => (y.1, i)
  | _ => none
def wip (ρ : Rho) : List Nat → Rho
  | [] => ρ
  | v :: vs => (wip ρ vs).set v none
def bindN (N : List Str) : List Expr → List D → Rho → Option Rho
  | [], [], ρ => some ρ
  | .Name x _ :: es, d :: ds, ρ => match slot N x with
    | some i => bindN N es ds (ρ.set i (some d))
    | none => none
  | _, _, _ => none
def bindT (N : List Str) (tg : Expr) (d : D) (ρ : Rho) : Option Rho := match tg with
  | .Name x _ => (slot N x).map fun i => ρ.set i (some d)
  | .Tuple es _ _ => (match d with
    | .tuple ds => bindN N es ds ρ
    | .list ds => bindN N es ds ρ
    | _ => none)
  | _ => none
def cst : Const → Option D
  | .none => some .none
  | .bool b => some (.bool b)
  | .int i => some (.int i)
  | .str s => some (.str s)
  | _ => none
def rngL (lo hi : Int) : List D := (List.range (hi - lo).toNat).map fun i => .int (lo + (i : Nat))
/-- the first check is one at which the kernel stops soon -/
def rngOk (lo hi : Int) : Bool := decide ((hi - lo).toNat ≤ LIM) && (decide (-(2 ^ 62) ≤ lo) && decide (lo < 2 ^ 62) && decide (-(2 ^ 62) ≤ hi) && decide (hi < 2 ^ 62))
def enumL (xs : List D) : List D := (List.range xs.length).zipWith (fun i x => .tuple [.int (i : Nat), x]) xs
def zipL (xs ys : List D) : List D := xs.zipWith (fun x y => .tuple [x, y]) ys
def compGo : List D → (D → Sto → Res (List D)) → Sto → Res (List D)
  | [], _, st => .ok [] st
  | x :: xs, f, st => match f x st with
    | .ok ys s1 => (match compGo xs f s1 with
      | .ok zs s2 => .ok (ys ++ zs) s2
      | _ => .bad)
    | _ => .bad
/-- as compGo, an exception is handed on -/
def compGoX : List D → (D → Sto → Res (List D)) → Sto → Res (List D)
  | [], _, st => .ok [] st
  | x :: xs, f, st => (f x st).bind fun ys s1 => (compGoX xs f s1).bind fun zs s2 => .ok (ys ++ zs) s2
def compZ (b : Bool) (xs : List D) (f : D → Sto → Res (List D)) (st : Sto) : Res (List D) := match b with
  | true => compGoX xs f st
  | false => compGo xs f st
/-- a comprehension that may raise: a call of a def on one name of the frame, no test, no free name -/
def rzS (elt : Expr) (ifs : List Expr) : Bool := match elt, ifs with
  | .Call (.Name _ _) [.Name _ _] [] _, [] => true
  | _, _ => false
def rzD (G : Sta) (N : List Str) (elt : Expr) : Bool := match elt with
  | .Call (.Name f _) [.Name x _] [] _ => G.isDef f && !G.isHnd f && (slot N f).isNone && (slot N x).isSome
  | _ => false
def nofree (scope : Scope) : Bool := scope.names.all fun x => !(x.2 == .free)
def rzC (G : Sta) (N : List Str) (elt : Expr) (ifs : List Expr) (scope : Scope) : Bool := rzS elt ifs && rzD G N elt && nofree scope
def forGo : List D → (D → Rho → Sto → Res Fl) → Rho → Sto → Res Fl
  | [], _, ρ, st => .ok (.nx ρ) st
  | x :: xs, f, ρ, st => (f x ρ st).bind fun fl s1 => match fl with
    | .nx ρ1 => forGo xs f ρ1 s1
    | .ct ρ1 => forGo xs f ρ1 s1
    | .bk ρ1 => .ok (.nx ρ1) s1
    | .rt d => .ok (.rt d) s1
def whGo : Nat → (Rho → Sto → Res Bool) → (Rho → Sto → Res Fl) → Rho → Sto → Res Fl
  | 0, _, _, _, _ => .bad
  | k + 1, c, f, ρ, st => (c ρ st).bind fun b s0 => match b with
    | false => .ok (.nx ρ) s0
    | true => (f ρ s0).bind fun fl s1 => match fl with
      | .nx ρ1 => whGo k c f ρ1 s1
      | .ct ρ1 => whGo k c f ρ1 s1
      | .bk ρ1 => .ok (.nx ρ1) s1
      | .rt d => .ok (.rt d) s1
def oInt : Option D → Option (Option Int)
  | none => some none
  | some (.int i) => some (some i)
  | _ => none
def alloc (G : Glb) (pos : Pos) (xs : List D) (st : Sto) : Res D := match G.mkr pos with
  | true => if norefs xs then .ok (dref st.length) (st ++ [.ml xs]) else .bad
  | false => .ok (.list xs) st
def opAt (G : Glb) (pos : Pos) (op : Operator) (x y : D) (st : Sto) : Res D := match G.mkr pos with
  | false => .lift (binop op x y) st
  | true => match op, x, y with
    | .Add, .list a, .list b => (match binop .Add (.list a) (.list b) with
      | some (.list xs) => alloc G pos xs st
      | _ => .bad)
    | .Mult, .list a, .int k => (match binop .Mult (.list a) (.int k) with
      | some (.list xs) => alloc G pos xs st
      | _ => .bad)
    | _, _, _ => .bad
def frozen (G : Glb) (pos : Pos) (d : D) (st : Sto) : Res D := match G.frz pos with
  | false => .ok d st
  | true => match d with
    | .dict [(.int n, .none)] => (match st[n.toNat]? with
      | some (.ml xs) => if 0 ≤ n then .ok (.list xs) (st.set n.toNat .dead) else .bad
      | _ => .bad)
    | _ => .bad
def asSeq (d : D) : Option (List D) := match d with
  | .list xs => some xs
  | .tuple xs => some xs
  | _ => none
/-- what a for walks over -/
def asIt (d : D) : Option (List D) := match d with
  | .list xs => some xs
  | .tuple xs => some xs
  | .str z => if z.length ≤ LIM then some (chars z) else none
  | _ => none
mutual
def evalE (G : Glb) (N : List Str) : Nat → Expr → Rho → Sto → Res D
  | 0, _, _, _ => .bad
  | n + 1, e, ρ, st => match e with
    | .Name x pos => (match slot N x with
      | some i => (match ρ[i]? with
        | some (some d) => frozen G pos d st
        | _ => .bad)
      | none => (match G.cst x with
        | some d => .ok d st
        | none => if G.isDef x then .ok (dgl x) st else .bad))
    | .Constant c _ _ => .lift (cst c) st
    | .Tuple es _ _ => (evalL G N n es ρ st).bind fun ds s1 => .ok (.tuple ds) s1
    | .List es pos => (evalL G N n es ρ st).bind fun ds s1 => alloc G pos ds s1
    | .BinOp a op b pos => (evalE G N n a ρ st).bind fun x s1 => (evalE G N n b ρ s1).bind fun y s2 => opAt G pos op x y s2
    | .UnaryOp .Not a _ => (evalE G N n a ρ st).bind fun x s1 => (match x with
      | .bool b => .ok (.bool (!b)) s1
      | _ => .bad)
    | .UnaryOp .USub a _ => (evalE G N n a ρ st).bind fun x s1 => (match x with
      | .int i => .ok (.int (-i)) s1
      | _ => .bad)
    | .BoolOp op es _ => evalB G N n op es ρ st
    | .Compare a [op] [b] _ => (evalE G N n a ρ st).bind fun x s1 => (evalE G N n b ρ s1).bind fun y s2 => .lift ((cmpop op x (lookS op y s2)).map .bool) s2
    | .Compare a [op, op'] [b, c] _ => (evalE G N n a ρ st).bind fun x s1 => (evalE G N n b ρ s1).bind fun y s2 => (match cmpop op x y with
      | some true => (evalE G N n c ρ s2).bind fun z s3 => .lift ((cmpop op' y z).map .bool) s3
      | some false => .ok (.bool false) s2
      | none => .bad)
    | .IfExp c a b _ => (evalT G N n c ρ st).bind fun t s1 => (match t with
      | true => evalE G N n a ρ s1
      | false => evalE G N n b ρ s1)
    | .Subscript o (.Slice lo hi none _) _ => (evalE G N n o ρ st).bind fun x s1 => (evalO G N n lo ρ s1).bind fun l s2 => (evalO G N n hi ρ s2).bind fun h s3 => .lift (sliced x l h) s3
    | .Subscript o (.Slice none none (some (.UnaryOp .USub (.Constant (.int 1) _ _) _)) _) _ => (evalE G N n o ρ st).bind fun x s1 => (match x with
      | .list xs => .ok (.list xs.reverse) s1
      | .tuple xs => .ok (.tuple xs.reverse) s1
      | _ => .bad)
    | .Subscript o i _ => (evalE G N n o ρ st).bind fun x s1 => (evalE G N n i ρ s1).bind fun y s2 => .lift (item x y s2) s2
    | .ListComp elt [⟨tg, it, ifs, 0⟩] scope pos => (evalI G N n it ρ st).bind fun xs s1 =>
        (compZ (rzC G N elt ifs scope) xs (fun x s => match bindT N tg x (wip ρ ((ownSl N scope).map (·.2))) with
          | none => .bad
          | some ρ1 => (evalIf G N n ifs ρ1 s).bind fun b s2 => match b with
            | false => .ok [] s2
            | true => (evalE G N n elt ρ1 s2).bind fun d s3 => .ok [d] s3) s1).bind fun ds s4 => .ok (.list ds) s4
    | .ListComp elt [⟨tg, it, ifs, 0⟩, ⟨tg1, it1, ifs1, 0⟩] scope pos => (evalI G N n it ρ st).bind fun xs s1 =>
        (compGo xs (fun x s => match bindT N tg x (wip ρ ((ownSl N scope).map (·.2))) with
          | none => .bad
          | some ρ1 => (evalIf G N n ifs ρ1 s).bind fun b s2 => match b with
            | false => .ok [] s2
            | true => (evalI G N n it1 ρ1 s2).bind fun ys s3 => compGo ys (fun y t => match bindT N tg1 y ρ1 with
              | none => .bad
              | some ρ2 => (evalIf G N n ifs1 ρ2 t).bind fun b t2 => match b with
                | false => .ok [] t2
                | true => (evalE G N n elt ρ2 t2).bind fun d t3 => .ok [d] t3) s3) s1).bind fun ds s4 => .ok (.list ds) s4
    | .Call (.Name f _) args [] _ => (match slot N f with
      | some i => (match ρ[i]? with
        | some (some (.dict [(.str g, .none)])) => if G.isDef g then (evalL G N n args ρ st).bind fun ds s1 => G.call g ds s1 else .bad
        | _ => .bad)
      | none =>
        if G.isHnd f then (match args with
          | [.Lambda _ body _ _] => (match evalE G.noH N n body ρ st with
            | .ok _ s1 => .ok (.str "") s1
            | .exc c s1 => .lift (G.hnd c) s1
            | .bad => .bad)
          | _ => .bad)
        else if G.isDef f then (evalL G N n args ρ st).bind fun ds s1 => G.call f ds s1
        else if G.isX f then (evalL G N n args ρ st).bind fun ds s1 => .lift (G.xap f ds) s1
        else if f = "isinstance" then (match args with
          | [a, .Name t _] => (match G.isCls t with
            | true => (evalE G N n a ρ st).bind fun x s1 => .lift ((isEx G.isub t x).map .bool) s1
            | false => (evalE G N n a ρ st).bind fun x s1 => .lift ((isKind x t).map .bool) s1)
          | _ => .bad)
        else if f = "sorted" then (match args with
          | [.Call (.Name g _) [a] [] _] => if g = "set" then (evalE G N n a ρ st).bind fun x s1 => .lift (sortSet x) s1 else .bad
          | _ => .bad)
        else (evalL G N n args ρ st).bind fun ds s1 => .lift (bi f ds) s1)
    | .Call (.Attribute o m _) args [] _ => (evalE G N n o ρ st).bind fun x s1 => match rcv m x s1 with
      | false => .bad
      | true => (evalL G N n args ρ s1).bind fun ds s2 =>
        if m = "append" then (match ds with
          | [v] => (match appItem x v s2 with
            | some s3 => .ok .none s3
            | none => .bad)
          | _ => .bad)
        else .lift (meth m (cntS m x s2) ds) s2
    | .Attribute o a _ => (match G.isAt a with
      | true => (evalE G N n o ρ st).bind fun x s1 => .lift (G.atf a x) s1
      | false => .bad)
    | _ => .bad
def evalL (G : Glb) (N : List Str) : Nat → List Expr → Rho → Sto → Res (List D)
  | 0, _, _, _ => .bad
  | n + 1, es, ρ, st => match es with
    | [] => .ok [] st
    | e :: es => (evalE G N n e ρ st).bind fun d s1 => (evalL G N n es ρ s1).bind fun ds s2 => .ok (d :: ds) s2
/-- and, or: of truth values -/
def evalB (G : Glb) (N : List Str) : Nat → BoolOp → List Expr → Rho → Sto → Res D
  | 0, _, _, _, _ => .bad
  | n + 1, op, es, ρ, st => match es with
    | [] => .bad
    | [e] => evalE G N n e ρ st
    | e :: es => (evalE G N n e ρ st).bind fun d s1 => (match op, d with
      | .And, .bool true => evalB G N n op es ρ s1
      | .And, .bool false => .ok (.bool false) s1
      | .Or, .bool true => .ok (.bool true) s1
      | .Or, .bool false => evalB G N n op es ρ s1
      | _, _ => .bad)
def evalT (G : Glb) (N : List Str) : Nat → Expr → Rho → Sto → Res Bool
  | 0, _, _, _ => .bad
  | n + 1, e, ρ, st => (evalE G N n e ρ st).bind fun d s1 => match d with
    | .bool b => .ok b s1
    | _ => .bad
def evalO (G : Glb) (N : List Str) : Nat → Option Expr → Rho → Sto → Res (Option Int)
  | 0, _, _, _ => .bad
  | n + 1, o, ρ, st => match o with
    | none => .ok none st
    | some e => (evalE G N n e ρ st).bind fun d s1 => match d with
      | .int i => .ok (some i) s1
      | _ => .bad
def evalIf (G : Glb) (N : List Str) : Nat → List Expr → Rho → Sto → Res Bool
  | 0, _, _, _ => .bad
  | n + 1, es, ρ, st => match es with
    | [] => .ok true st
    | [c] => evalT G N n c ρ st
    | _ => .bad
/-- what is walked -/
def evalI (G : Glb) (N : List Str) : Nat → Expr → Rho → Sto → Res (List D)
  | 0, _, _, _ => .bad
  | n + 1, e, ρ, st => match e with
    | .Call (.Name f p) [a] [] pos =>
      if f = "range" then (evalE G N n a ρ st).bind fun x s1 => (match x with
        | .int j => if rngOk 0 j then .ok (rngL 0 j) s1 else .bad
        | _ => .bad)
      else if f = "enumerate" then (evalE G N n a ρ st).bind fun x s1 => (match asSeq x with
        | some xs => .ok (enumL xs) s1
        | none => .bad)
      else (evalE G N n (.Call (.Name f p) [a] [] pos) ρ st).bind fun x s1 => .lift (asIt x) s1
    | .Call (.Name f p) [a, b] [] pos =>
      if f = "range" then (evalE G N n a ρ st).bind fun x s1 => (evalE G N n b ρ s1).bind fun y s2 => (match x, y with
        | .int i, .int j => if rngOk i j then .ok (rngL i j) s2 else .bad
        | _, _ => .bad)
      else if f = "zip" then (evalE G N n a ρ st).bind fun x s1 => (evalE G N n b ρ s1).bind fun y s2 => (match asSeq x, asSeq y with
        | some xs, some ys => .ok (zipL xs ys) s2
        | _, _ => .bad)
      else (evalE G N n (.Call (.Name f p) [a, b] [] pos) ρ st).bind fun x s1 => .lift (asIt x) s1
    | e => (evalE G N n e ρ st).bind fun x s1 => .lift (asIt x) s1
end
def parT (N : List Str) : List Expr → Option (List Nat)
  | [] => some []
  | .Name x _ :: es => match slot N x, parT N es with
    | some i, some is => some (i :: is)
    | _, _ => none
  | _ => none
def setAll : List Nat → List D → Rho → Option Rho
  | [], [], ρ => some ρ
  | i :: is, d :: ds, ρ => setAll is ds (ρ.set i (some d))
  | _, _, _ => none
def WF : Nat := 2000
mutual
def execS (G : Glb) (N : List Str) : Nat → Stmt → Rho → Sto → Res Fl
  | 0, _, _, _ => .bad
  | n + 1, s, ρ, st => match s with
    | .Pass _ => .ok (.nx ρ) st
    | .Continue _ => .ok (.ct ρ) st
    | .Break _ => .ok (.bk ρ) st
    | .Return (some e) _ => (evalE G N n e ρ st).bind fun d s1 => .ok (.rt d) s1
    | .Return none _ => .ok (.rt .none) st
    | .Expr e _ => (evalE G N n e ρ st).bind fun _ s1 => .ok (.nx ρ) s1
    | .Assign [.Tuple ts _ _] (.Tuple vs _ _) _ => (evalL G N n vs ρ st).bind fun ds s1 => (match bindN N ts ds ρ with
      | some ρ1 => .ok (.nx ρ1) s1
      | none => .bad)
    | .Assign [.Subscript o i _] e _ => (evalE G N n e ρ st).bind fun v s1 => (evalE G N n o ρ s1).bind fun x s2 => (evalE G N n i ρ s2).bind fun y s3 => (match putItem x y v s3 with
      | some s4 => .ok (.nx ρ) s4
      | none => .bad)
    | .Assign [tg] e _ => (evalE G N n e ρ st).bind fun d s1 => (match bindT N tg d ρ with
      | some ρ1 => .ok (.nx ρ1) s1
      | none => .bad)
    | .If c a b _ => (evalT G N n c ρ st).bind fun t s1 => (match t with
      | true => execB G N n a ρ s1
      | false => execB G N n b ρ s1)
    | .While c body [] _ => whGo WF (fun ρ s => evalT G N n c ρ s) (fun ρ s => execB G N n body ρ s) ρ st
    | .For tg it body [] _ => (evalI G N n it ρ st).bind fun xs s1 => forGo xs (fun x ρ s => match bindT N tg x ρ with
      | none => .bad
      | some ρ1 => execB G N n body ρ1 s) ρ s1
    | .Raise (some (.Call (.Name c _) [.Constant _ _ _] [] _)) none _ => (match slot N c with
      | none => .exc c st
      | some _ => .bad)
    | _ => .bad
def execB (G : Glb) (N : List Str) : Nat → List Stmt → Rho → Sto → Res Fl
  | 0, _, _, _ => .bad
  | n + 1, ss, ρ, st => match ss with
    | [] => .ok (.nx ρ) st
    | s :: ss => (execS G N n s ρ st).bind fun fl s1 => (match fl with
      | .nx ρ1 => execB G N n ss ρ1 s1
      | fl => .ok fl s1)
end
structure Def where
  name : Str
  lam : Bool
  N : List Str
  ps : List Str
  body : List Stmt
  scope : Scope
/-- behind a call: what the frame alone held is let go -/
def leave (k : Nat) (r : Res D) : Res D := match r with
  | .ok d s => (match d with
    | .dict [(.int n, .none)] => (match s[n.toNat]? with
      | some (.ml xs) => if decide (0 ≤ n) && decide (k ≤ n.toNat) then .ok d s else .bad
      | _ => .bad)
    | d => if noref d then .ok d (s.take k) else .bad)
  | .exc c s => .exc c (s.take k)
  | .bad => .bad
def FD : Nat := 100
def startR (N : List Str) (ds : List D) : Rho := ds.map some ++ List.replicate (N.length - ds.length) none
def runD (G : Glb) (d : Def) (ds : List D) (st : Sto) : Res D :=
  if ds.length = d.ps.length then leave st.length ((execB (match d.lam with | true => G | false => G.noH) d.N FD d.body (startR d.N ds) st).bind fun fl s => match fl with
    | .rt d => .ok d s
    | .nx _ => .ok .none s
    | _ => .bad)
  else .bad
def findD : List Def → Str → Option Def
  | [], _ => none
  | d :: r, x => if d.name = x then some d else findD r x
end MP
set_option Elab.async false
set_option linter.all false
set_option maxRecDepth 100000
namespace MP
open PySem PySem.Spec PyProof.Rows L2 LamX

/-- where the store's objects stand (none: let go) -/
structure MA where
  l : List (Option Addr)
  hid : List Addr
/-- kept from values: an object of the store, a list that a block fills -/
def live (m : MA) (a : Addr) : Prop := (∃ n : Nat, m.l[n]? = some (some a)) ∨ a ∈ m.hid
abbrev MG := Str → Option Value
mutual
inductive RV (mg : MG) (m : MA) (H : Hp) : V → D → Prop
  | non : RV mg m H .non .none
  | bl (b : Bool) : RV mg m H (.bl b) (.bool b)
  | int (i : Int) : RV mg m H (.int i) (.int i)
  | str (s : Str) : RV mg m H (.str s) (.str s)
  | lst {a : Addr} {vs : List V} {ds : List D} : Rd H a (.lst vs) → ¬ live m a → vs.length ≤ LIM → RVs mg m H vs ds → RV mg m H (.ref a) (.list ds)
  | tup {a : Addr} {vs : List V} {ds : List D} : Rd H a (.tup vs) → ¬ live m a → vs.length ≤ LIM → RVs mg m H vs ds → RV mg m H (.ref a) (.tuple ds)
  | obj {a : Addr} {n : Nat} : n < m.l.length → (∀ b, m.l[n]? = some (some b) → b = a) → RV mg m H (.ref a) (.dict [(.int (n : Int), .none)])
  | gl {a : Addr} {x : Str} : mg x = some (.ref a) → RV mg m H (.ref a) (.dict [(.str x, .none)])
  | ex {a C t : Addr} {x z : Str} : mg x = some (.ref C) → H a = some (exm a C t) → H t = some (.tup [.str z]) → ¬ live m a → ¬ live m t → RV mg m H (.ref a) (.dict [(.str x, .str z)])
  | et {a C dx : Addr} {x : Str} {n : Int} : mg x = some (.ref C) → H a = some (exo a C (some dx)) → H dx = some (exd dx [("limit", .int n)]) → ¬ live m a → ¬ live m dx → RV mg m H (.ref a) (.dict [(.str x, .int n)])
inductive RVs (mg : MG) (m : MA) (H : Hp) : List V → List D → Prop
  | nil : RVs mg m H [] []
  | cons {v : V} {vs : List V} {d : D} {ds : List D} : RV mg m H v d → RVs mg m H vs ds → RVs mg m H (v :: vs) (d :: ds)
end
/-- what a step keeps -/
structure Ext0 (m : MA) (H : Hp) (m' : MA) (H' : Hp) : Prop where
  keep : ∀ a o, H a = some o → ¬ live m a → (∀ ps, o ≠ .tbl ps) → H' a = some o
  new : ∀ a, live m' a → live m a ∨ ∀ o, H a = some o → ∃ ps, o = .tbl ps
  old : ∀ (n : Nat) a, n < m.l.length → m'.l[n]? = some (some a) → m.l[n]? = some (some a)
  len : m.l.length ≤ m'.l.length
structure Ext (m : MA) (H : Hp) (m' : MA) (H' : Hp) : Prop extends Ext0 m H m' H' where
  hid : m'.hid = m.hid
  hk : ∀ a ∈ m.hid, H' a = H a
theorem Ext0.refl (m : MA) (H : Hp) : Ext0 m H m H := ⟨fun _ _ h _ _ => h, fun _ h => .inl h, fun _ _ _ h => h, Nat.le_refl _⟩
theorem Ext.refl (m : MA) (H : Hp) : Ext m H m H := ⟨Ext0.refl m H, rfl, fun _ _ => rfl⟩
theorem Ext0.not_new {m m' : MA} {H H' : Hp} (e : Ext0 m H m' H') {a : Addr} {o : HO} (h : H a = some o) (nl : ¬ live m a) (nt : ∀ ps, o ≠ .tbl ps) : ¬ live m' a := fun l =>
  (e.new a l).elim nl fun z => let ⟨ps, q⟩ := z o h; nt ps q
theorem Ext0.trans {m m1 m2 : MA} {H H1 H2 : Hp} (e : Ext0 m H m1 H1) (f : Ext0 m1 H1 m2 H2) : Ext0 m H m2 H2 where
  keep := fun a o h nl nt => f.keep a o (e.keep a o h nl nt) (e.not_new h nl nt) nt
  new := fun a l => by
    by_cases hl : live m a
    · exact .inl hl
    · refine .inr fun o h => ?_
      by_cases ht : ∃ ps, o = .tbl ps
      · exact ht
      · have nt : ∀ ps, o ≠ .tbl ps := fun ps hp => ht ⟨ps, hp⟩
        exact absurd l (f.not_new (e.keep a o h hl nt) (e.not_new h hl nt) nt)
  old := fun n a hn h => e.old n a hn (f.old n a (Nat.lt_of_lt_of_le hn e.len) h)
  len := Nat.le_trans e.len f.len
theorem Ext.trans {m m1 m2 : MA} {H H1 H2 : Hp} (e : Ext m H m1 H1) (f : Ext m1 H1 m2 H2) : Ext m H m2 H2 :=
  ⟨e.toExt0.trans f.toExt0, f.hid.trans e.hid, fun a h => (f.hk a (by rw [e.hid]; exact h)).trans (e.hk a h)⟩
section
variable {mg : MG} {m m' : MA} {H H' : Hp}
theorem Ext0.rd {a : Addr} {u : HO} (e : Ext0 m H m' H') (r : Rd H a u) (nl : ¬ live m a) (nt : ∀ ps, u ≠ .tbl ps) : Rd H' a u ∧ ¬ live m' a := by
  rcases r with r | ⟨o, r⟩
  · exact ⟨.inl (e.keep a _ r nl nt), e.not_new r nl nt⟩
  · exact ⟨.inr ⟨o, e.keep a _ r nl fun ps z => by cases z⟩, e.not_new r nl fun ps z => by cases z⟩
mutual
theorem RV.ext0 (e : Ext0 m H m' H') : ∀ {v : V} {d : D}, RV mg m H v d → RV mg m' H' v d
  | _, _, .non => .non
  | _, _, .bl b => .bl b
  | _, _, .int i => .int i
  | _, _, .str s => .str s
  | _, _, .lst r nl l h => let ⟨r', nl'⟩ := e.rd r nl (fun ps z => by cases z); .lst r' nl' l (RVs.ext0 e h)
  | _, _, .tup r nl l h => let ⟨r', nl'⟩ := e.rd r nl (fun ps z => by cases z); .tup r' nl' l (RVs.ext0 e h)
  | _, _, .obj hn hb => .obj (Nat.lt_of_lt_of_le hn e.len) fun b q => hb b (e.old _ b hn q)
  | _, _, .gl h => .gl h
  | _, _, .ex h h1 h2 n1 n2 => .ex h (e.keep _ _ h1 n1 fun ps => exm_tbl) (e.keep _ _ h2 n2 fun ps z => by cases z) (e.not_new h1 n1 fun ps => exm_tbl) (e.not_new h2 n2 fun ps z => by cases z)
  | _, _, .et h h1 h2 n1 n2 => .et h (e.keep _ _ h1 n1 fun ps => exo_tbl) (e.keep _ _ h2 n2 fun ps => exd_tbl) (e.not_new h1 n1 fun ps => exo_tbl) (e.not_new h2 n2 fun ps => exd_tbl)
theorem RVs.ext0 (e : Ext0 m H m' H') : ∀ {vs : List V} {ds : List D}, RVs mg m H vs ds → RVs mg m' H' vs ds
  | _, _, .nil => .nil
  | _, _, .cons h t => .cons (RV.ext0 e h) (RVs.ext0 e t)
end
theorem RV.ext {v : V} {d : D} (r : RV mg m H v d) (e : Ext m H m' H') : RV mg m' H' v d := r.ext0 e.toExt0
theorem RVs.ext {vs : List V} {ds : List D} (r : RVs mg m H vs ds) (e : Ext m H m' H') : RVs mg m' H' vs ds := r.ext0 e.toExt0
mutual
theorem RV.less (hl : ∀ a, live m' a → live m a) : ∀ {v : V} {d : D}, RV mg m H v d → noref d = true → RV mg m' H v d
  | _, _, .non, _ => .non
  | _, _, .bl b, _ => .bl b
  | _, _, .int i, _ => .int i
  | _, _, .str s, _ => .str s
  | _, _, .lst r nl l h, n => .lst r (fun z => nl (hl _ z)) l (RVs.less hl h (by simpa [noref] using n))
  | _, _, .tup r nl l h, n => .tup r (fun z => nl (hl _ z)) l (RVs.less hl h (by simpa [noref] using n))
  | _, _, .obj _ _, n => by simp [noref] at n
  | _, _, .gl h, _ => .gl h
  | _, _, .ex h h1 h2 n1 n2, _ => .ex h h1 h2 (fun z => n1 (hl _ z)) (fun z => n2 (hl _ z))
  | _, _, .et h h1 h2 n1 n2, _ => .et h h1 h2 (fun z => n1 (hl _ z)) (fun z => n2 (hl _ z))
theorem RVs.less (hl : ∀ a, live m' a → live m a) : ∀ {vs : List V} {ds : List D}, RVs mg m H vs ds → norefs ds = true → RVs mg m' H vs ds
  | _, _, .nil, _ => .nil
  | _, _, .cons h t, n => by
    simp only [norefs, Bool.and_eq_true] at n
    exact .cons (RV.less hl h n.1) (RVs.less hl t n.2)
end
theorem RVs.length : ∀ {vs : List V} {ds : List D}, RVs mg m H vs ds → vs.length = ds.length
  | _, _, .nil => rfl
  | _, _, .cons _ t => congrArg (· + 1) (RVs.length t)
theorem RVs.append : ∀ {vs ws : List V} {ds es : List D}, RVs mg m H vs ds → RVs mg m H ws es → RVs mg m H (vs ++ ws) (ds ++ es)
  | _, _, _, _, .nil, h => h
  | _, _, _, _, .cons a t, h => .cons a (RVs.append t h)
theorem RVs.get : ∀ {vs : List V} {ds : List D} {i : Nat} {d : D}, RVs mg m H vs ds → ds[i]? = some d → ∃ v, vs[i]? = some v ∧ RV mg m H v d
  | _, _, _, _, .nil, h => by simp at h
  | _, _, 0, _, .cons a _, h => by
    simp only [List.getElem?_cons_zero, Option.some.injEq] at h
    subst h
    exact ⟨_, rfl, a⟩
  | _, _, i + 1, _, .cons _ t, h => by
    obtain ⟨v, h1, h2⟩ := RVs.get (i := i) t (by simpa using h)
    exact ⟨v, by simpa using h1, h2⟩
theorem RVs.getV : ∀ {vs : List V} {ds : List D} {i : Nat} {v : V}, RVs mg m H vs ds → vs[i]? = some v → ∃ d, ds[i]? = some d ∧ RV mg m H v d
  | _, _, _, _, .nil, h => by simp at h
  | _, _, 0, _, .cons a _, h => by
    simp only [List.getElem?_cons_zero, Option.some.injEq] at h
    subst h
    exact ⟨_, rfl, a⟩
  | _, _, i + 1, _, .cons _ t, h => by
    obtain ⟨v, h1, h2⟩ := RVs.getV (i := i) t (by simpa using h)
    exact ⟨v, by simpa using h1, h2⟩
theorem RVs.drop : ∀ {vs : List V} {ds : List D} (n : Nat), RVs mg m H vs ds → RVs mg m H (vs.drop n) (ds.drop n)
  | _, _, 0, h => h
  | _, _, _ + 1, .nil => .nil
  | _, _, n + 1, .cons _ t => RVs.drop n t
theorem RVs.take : ∀ {vs : List V} {ds : List D} (n : Nat), RVs mg m H vs ds → RVs mg m H (vs.take n) (ds.take n)
  | _, _, 0, _ => .nil
  | _, _, _ + 1, .nil => .nil
  | _, _, n + 1, .cons a t => .cons a (RVs.take n t)
theorem RVs.set {v : V} {d : D} (r : RV mg m H v d) : ∀ {vs : List V} {ds : List D} (n : Nat), RVs mg m H vs ds → RVs mg m H (vs.set n v) (ds.set n d)
  | _, _, _, .nil => .nil
  | _, _, 0, .cons _ t => .cons r t
  | _, _, n + 1, .cons a t => .cons a (RVs.set r n t)
theorem RVs.reverse : ∀ {vs : List V} {ds : List D}, RVs mg m H vs ds → RVs mg m H vs.reverse ds.reverse
  | _, _, .nil => .nil
  | _, _, .cons a t => by
    rw [List.reverse_cons, List.reverse_cons]
    exact (RVs.reverse t).append (.cons a .nil)
theorem RVs.rep {vs : List V} {ds : List D} (h : RVs mg m H vs ds) : ∀ n : Nat, RVs mg m H (List.replicate n vs).flatten (List.replicate n ds).flatten
  | 0 => .nil
  | n + 1 => by
    rw [List.replicate_succ, List.replicate_succ, List.flatten_cons, List.flatten_cons]
    exact h.append (RVs.rep h n)
theorem RVs.ints_of : ∀ {vs : List V} {ds : List D} {is : List Int}, RVs mg m H vs ds → dInts ds = some is → vs = is.map V.int
  | _, _, _, .nil, h => by
    simp only [dInts, Option.some.injEq] at h
    subst h
    rfl
  | _, _, _, .cons (d := d) a t, h => by
    cases a with
    | int i =>
      simp only [dInts, Option.map_eq_some_iff] at h
      obtain ⟨r, h1, rfl⟩ := h
      rw [RVs.ints_of t h1]
      rfl
    | _ => simp [dInts] at h
theorem RVs.bools_of : ∀ {vs : List V} {ds : List D} {is : List Bool}, RVs mg m H vs ds → dBools ds = some is → vs = is.map V.bl
  | _, _, _, .nil, h => by
    simp only [dBools, Option.some.injEq] at h
    subst h
    rfl
  | _, _, _, .cons (d := d) a t, h => by
    cases a with
    | bl i =>
      simp only [dBools, Option.map_eq_some_iff] at h
      obtain ⟨r, h1, rfl⟩ := h
      rw [RVs.bools_of t h1]
      rfl
    | _ => simp [dBools] at h
theorem RVs.strs_of : ∀ {vs : List V} {ds : List D} {is : List Str}, RVs mg m H vs ds → dStrs ds = some is → vs = is.map V.str
  | _, _, _, .nil, h => by
    simp only [dStrs, Option.some.injEq] at h
    subst h
    rfl
  | _, _, _, .cons (d := d) a t, h => by
    cases a with
    | str i =>
      simp only [dStrs, Option.map_eq_some_iff] at h
      obtain ⟨r, h1, rfl⟩ := h
      rw [RVs.strs_of t h1]
      rfl
    | _ => simp [dStrs] at h
theorem RVs.of_strs : ∀ (is : List Str), RVs mg m H (is.map V.str) (is.map PyData.str)
  | [] => .nil
  | s :: is => .cons (.str s) (RVs.of_strs is)
theorem RVs.of_ints : ∀ (is : List Int), RVs mg m H (is.map V.int) (is.map PyData.int)
  | [] => .nil
  | s :: is => .cons (.int s) (RVs.of_ints is)
theorem RV.sqL {K : PySem.W.Frag} {v : V} {ds : List D} (r : RV mg m H v (.list ds)) : ∃ a vs, v = .ref a ∧ SqL K H a vs ∧ vs.length ≤ LIM ∧ RVs mg m H vs ds := by
  cases r with
  | lst h _ l t => exact ⟨_, _, rfl, .inl h, l, t⟩
theorem RV.sqT {K : PySem.W.Frag} {v : V} {ds : List D} (r : RV mg m H v (.tuple ds)) : ∃ a vs, v = .ref a ∧ SqT K H a vs ∧ vs.length ≤ LIM ∧ RVs mg m H vs ds := by
  cases r with
  | tup h _ l t => exact ⟨_, _, rfl, .inl h, l, t⟩
mutual
theorem RV.dp {K : PySem.W.Frag} : ∀ {v : V} {d : D}, RV mg m H v d → d.canLay0 = true → Dp K H v d
  | _, _, .non, _ => .non
  | _, _, .bl b, _ => .bl b
  | _, _, .int i, _ => .int i
  | _, _, .str s, _ => .str s
  | _, _, .lst r _ _ h, c => .lst (.inl r) (RVs.dp h (by simpa [PyData.canLay0] using c))
  | _, _, .tup r _ _ h, c => .tup (.inl r) (RVs.dp h (by simpa [PyData.canLay0] using c))
  | _, _, .obj _ _, c => by simp [PyData.canLay0] at c
  | _, _, .gl _, c => by simp [PyData.canLay0] at c
  | _, _, .ex .., c => by simp [PyData.canLay0] at c
  | _, _, .et .., c => by simp [PyData.canLay0] at c
theorem RVs.dp {K : PySem.W.Frag} : ∀ {vs : List V} {ds : List D}, RVs mg m H vs ds → PyData.canLayAll0 ds = true → DpAll K H vs ds
  | _, _, .nil, _ => .nil
  | _, _, .cons h t, c => by
    simp only [PyData.canLayAll0, Bool.and_eq_true] at c
    exact .cons (RV.dp h c.1) (RVs.dp t c.2)
end
end
structure RS (mg : MG) (T : List (Addr × Str)) (m : MA) (st : Sto) (H : Hp) : Prop where
  len : m.l.length = st.length
  nd : ∀ (i j : Nat) a, m.l[i]? = some (some a) → m.l[j]? = some (some a) → i = j
  obs : ∀ (n : Nat) a, m.l[n]? = some (some a) → ∃ xs vs, st[n]? = some (.ml xs) ∧ H a = some (.lst vs) ∧ vs.length ≤ LIM ∧ RVs mg m H vs xs ∧ norefs xs = true
  ded : ∀ n : Nat, m.l[n]? = some none → st[n]? = some .dead
  hid : ∀ a ∈ m.hid, (∃ vs, H a = some (.lst vs)) ∧ ∀ n : Nat, m.l[n]? ≠ some (some a)
  tabs : Tabs T H
section
variable {mg : MG} {T : List (Addr × Str)} {m m' : MA} {st st' : Sto} {H H' : Hp} {p : Addr}
theorem RS.trk (r : RS mg T m st H) {a : Addr} (l : live m a) : ∃ vs, H a = some (.lst vs) := by
  rcases l with ⟨n, h⟩ | h
  · obtain ⟨_, vs, _, h2, _⟩ := r.obs n a h
    exact ⟨vs, h2⟩
  · exact (r.hid a h).1
theorem RS.fresh (r : RS mg T m st H) (hp : H p = none) : ¬ live m p := fun l => let ⟨_, h⟩ := r.trk l; by rw [hp] at h; cases h
theorem ext_upd0 {o : HO} (hp : H p = none) : Ext0 m H m (upd H p o) :=
  ⟨fun a u h _ _ => by rw [upd_ne (ne_of_none h hp)]; exact h, fun _ l => .inl l, fun _ _ _ h => h, Nat.le_refl _⟩
theorem RS.ext_upd (r : RS mg T m st H) {o : HO} (hp : H p = none) : Ext m H m (upd H p o) :=
  ⟨ext_upd0 hp, rfl, fun a h => let ⟨⟨_, q⟩, _⟩ := r.hid a h; upd_ne (ne_of_none q hp)⟩
theorem tabs_upd {o : HO} (t : Tabs T H) (hp : H p = none) : Tabs T (upd H p o) := t.ext fun b u h => by rw [upd_ne (ne_of_none h hp)]; exact h
theorem RS.upd {o : HO} (r : RS mg T m st H) (hp : H p = none) : RS mg T m st (upd H p o) :=
  ⟨r.len, r.nd, fun n a h => let ⟨xs, vs, h1, h2, h3, h4, h5⟩ := r.obs n a h; ⟨xs, vs, h1, by rw [upd_ne (ne_of_none h2 hp)]; exact h2, h3, h4.ext0 (ext_upd0 hp), h5⟩, r.ded,
    fun a h => let ⟨⟨vs, q⟩, g⟩ := r.hid a h; ⟨⟨vs, by rw [upd_ne (ne_of_none q hp)]; exact q⟩, g⟩, tabs_upd r.tabs hp⟩
theorem RV.new_lst {vs : List V} {ds : List D} (r : RS mg T m st H) (hp : H p = none) (h : RVs mg m H vs ds) (l : vs.length ≤ LIM) : RV mg m (L2.upd H p (.lst vs)) (.ref p) (.list ds) :=
  .lst (.inl upd_same) (r.fresh hp) l (h.ext0 (ext_upd0 hp))
theorem RV.new_tup {vs : List V} {ds : List D} (r : RS mg T m st H) (hp : H p = none) (h : RVs mg m H vs ds) (l : vs.length ≤ LIM) : RV mg m (L2.upd H p (.tup vs)) (.ref p) (.tuple ds) :=
  .tup (.inl upd_same) (r.fresh hp) l (h.ext0 (ext_upd0 hp))
theorem live_snoc {a : Addr} : live ⟨m.l ++ [some p], m.hid⟩ a ↔ live m a ∨ a = p := by
  constructor
  · rintro (⟨n, h⟩ | h)
    · by_cases hn : n < m.l.length
      · rw [List.getElem?_append_left hn] at h
        exact .inl (.inl ⟨n, h⟩)
      · rw [List.getElem?_append_right (by omega)] at h
        cases e : n - m.l.length with
        | zero =>
          rw [e] at h
          simp at h
          exact .inr h.symm
        | succ k =>
          rw [e] at h
          simp at h
    · exact .inl (.inr h)
  · rintro ((⟨n, h⟩ | h) | rfl)
    · exact .inl ⟨n, by rw [List.getElem?_append_left (List.getElem?_eq_some_iff.mp h).1]; exact h⟩
    · exact .inr h
    · exact .inl ⟨m.l.length, by simp⟩
theorem ext_new0 {o : HO} (hp : H p = none) : Ext0 m H ⟨m.l ++ [some p], m.hid⟩ (upd H p o) where
  keep := fun a u h _ _ => by rw [upd_ne (ne_of_none h hp)]; exact h
  new := fun a l => (live_snoc.mp l).elim .inl fun e => .inr fun o z => by rw [e, hp] at z; cases z
  old := fun n a hn h => by rw [List.getElem?_append_left hn] at h; exact h
  len := by rw [List.length_append]; omega
theorem RS.ext_new (r : RS mg T m st H) {o : HO} (hp : H p = none) : Ext m H ⟨m.l ++ [some p], m.hid⟩ (L2.upd H p o) :=
  ⟨ext_new0 hp, rfl, fun a h => let ⟨⟨_, q⟩, _⟩ := r.hid a h; upd_ne (ne_of_none q hp)⟩
theorem snoc_cases {i : Nat} {a : Addr} (h : (m.l ++ [some p])[i]? = some (some a)) : (i < m.l.length ∧ m.l[i]? = some (some a)) ∨ (i = m.l.length ∧ a = p) := by
  by_cases hn : i < m.l.length
  · rw [List.getElem?_append_left hn] at h
    exact .inl ⟨hn, h⟩
  · have hi := (List.getElem?_eq_some_iff.mp h).1
    rw [List.length_append, List.length_singleton] at hi
    have ei : i = m.l.length := by omega
    subst ei
    simp at h
    exact .inr ⟨rfl, h.symm⟩
/-- a new object of the store -/
theorem RS.alloc {vs : List V} {xs : List D} (r : RS mg T m st H) (hp : H p = none) (h : RVs mg m H vs xs) (l : vs.length ≤ LIM) (n : norefs xs = true) :
    RS mg T ⟨m.l ++ [some p], m.hid⟩ (st ++ [.ml xs]) (L2.upd H p (.lst vs)) ∧ RV mg ⟨m.l ++ [some p], m.hid⟩ (L2.upd H p (.lst vs)) (.ref p) (.dict [(.int ((st.length : Nat) : Int), .none)]) := by
  have e : Ext0 m H ⟨m.l ++ [some p], m.hid⟩ (L2.upd H p (.lst vs)) := ext_new0 hp
  have dj : ∀ a ∈ m.hid, a ≠ p := fun a h z => by
    obtain ⟨⟨_, q⟩, _⟩ := r.hid a h
    rw [z, hp] at q
    cases q
  refine ⟨⟨by rw [List.length_append, List.length_append, r.len]; rfl, fun i j a hi hj => ?_, fun i a hi => ?_, fun i hi => ?_, fun a ha => ?_, tabs_upd r.tabs hp⟩, .obj (by rw [List.length_append, r.len]; simp) fun b hb => ?_⟩
  · rcases snoc_cases hi with ⟨h1, h2⟩ | ⟨h1, h2⟩ <;> rcases snoc_cases hj with ⟨h3, h4⟩ | ⟨h3, h4⟩
    · exact r.nd i j a h2 h4
    · exact absurd (.inl ⟨i, by rw [← h4]; exact h2⟩) (r.fresh hp)
    · exact absurd (.inl ⟨j, by rw [← h2]; exact h4⟩) (r.fresh hp)
    · omega
  · rcases snoc_cases hi with ⟨hn, hi⟩ | ⟨ei, rfl⟩
    · obtain ⟨ys, ws, h1, h2, h3, h4, h5⟩ := r.obs i a hi
      exact ⟨ys, ws, by rw [List.getElem?_append_left (by rw [← r.len]; exact hn)]; exact h1, by rw [upd_ne (ne_of_none h2 hp)]; exact h2, h3, h4.ext0 e, h5⟩
    · subst ei
      exact ⟨xs, vs, by rw [r.len]; simp, upd_same, l, h.ext0 e, n⟩
  · by_cases hn : i < m.l.length
    · rw [List.getElem?_append_left hn] at hi
      rw [List.getElem?_append_left (by rw [← r.len]; exact hn)]
      exact r.ded i hi
    · have hi2 := (List.getElem?_eq_some_iff.mp hi).1
      rw [List.length_append, List.length_singleton] at hi2
      have ei : i = m.l.length := by omega
      subst ei
      simp at hi
  · obtain ⟨⟨ws, q⟩, g⟩ := r.hid a ha
    refine ⟨⟨ws, by rw [upd_ne (ne_of_none q hp)]; exact q⟩, fun i z => ?_⟩
    rcases snoc_cases z with ⟨_, z⟩ | ⟨_, z⟩
    · exact g i z
    · exact dj a ha z
  · rw [← r.len] at hb
    simpa using hb.symm
theorem RS.ne_tab (r : RS mg T m st H) {a : Addr} {vs : List V} (h : H a = some (.lst vs)) (vs' : List V) : Tabs T (L2.upd H a (.lst vs')) := fun q hq => by
  obtain ⟨ps, h1, h2, h3⟩ := r.tabs q hq
  refine ⟨ps, by rw [upd_ne (fun z => by rw [z, h] at h1; cases h1)]; exact h1, h2, fun pos cv hc => ?_⟩
  obtain ⟨c, e1, e2⟩ := h3 pos cv hc
  exact ⟨c, e1, by rw [upd_ne (fun z => by rw [z, h] at e2; cases e2)]; exact e2⟩
/-- what is kept from values is written -/
theorem ext_live {a : Addr} {vs vs' : List V} (lv : live m a) (ha : H a = some (.lst vs)) : Ext0 m H m (L2.upd H a (.lst vs')) :=
  ⟨fun b o hb nl nt => by rw [upd_ne (fun z => nl (by rw [z]; exact lv))]; exact hb, fun _ l => .inl l, fun _ _ _ h => h, Nat.le_refl _⟩
/-- an object of the store is written -/
theorem RS.write {n : Nat} {a : Addr} {vs vs' : List V} {xs' : List D} (r : RS mg T m st H) (hn : m.l[n]? = some (some a)) (ha : H a = some (.lst vs)) (h : RVs mg m H vs' xs') (l : vs'.length ≤ LIM) (nr : norefs xs' = true) :
    RS mg T m (st.set n (.ml xs')) (L2.upd H a (.lst vs')) ∧ Ext m H m (L2.upd H a (.lst vs')) := by
  have lv : live m a := .inl ⟨n, hn⟩
  have e : Ext0 m H m (L2.upd H a (.lst vs')) := ext_live lv ha
  have hlt : n < st.length := by rw [← r.len]; exact (List.getElem?_eq_some_iff.mp hn).1
  have dj : ∀ b ∈ m.hid, b ≠ a := fun b h z => (r.hid b h).2 n (by rw [z]; exact hn)
  refine ⟨⟨by rw [List.length_set]; exact r.len, r.nd, fun i b hi => ?_, fun i hi => ?_, fun b hb => ?_, r.ne_tab ha vs'⟩, ⟨e, rfl, fun b hb => upd_ne (dj b hb)⟩⟩
  · by_cases hin : i = n
    · subst hin
      rw [hn] at hi
      cases hi
      exact ⟨xs', vs', by rw [List.getElem?_set_self hlt], upd_same, l, h.ext0 e, nr⟩
    · obtain ⟨ys, ws, h1, h2, h3, h4, h5⟩ := r.obs i b hi
      refine ⟨ys, ws, by rw [List.getElem?_set_ne (Ne.symm hin)]; exact h1, ?_, h3, h4.ext0 e, h5⟩
      rw [upd_ne (fun z => hin (r.nd i n a (by rw [← z]; exact hi) hn))]
      exact h2
  · have hin : i ≠ n := fun z => by rw [z, hn] at hi; cases hi
    rw [List.getElem?_set_ne (Ne.symm hin)]
    exact r.ded i hi
  · obtain ⟨⟨ws, q⟩, g⟩ := r.hid b hb
    exact ⟨⟨ws, by rw [upd_ne (dj b hb)]; exact q⟩, g⟩
/-- a block's list is begun -/
theorem RS.hide {o : HO} (r : RS mg T m st H) {vs : List V} (ho : o = .lst vs) (hp : H p = none) : RS mg T ⟨m.l, p :: m.hid⟩ st (L2.upd H p o) ∧ Ext0 m H ⟨m.l, p :: m.hid⟩ (L2.upd H p o) := by
  subst ho
  have e : Ext0 m H ⟨m.l, p :: m.hid⟩ (L2.upd H p (.lst vs)) := by
    refine ⟨fun a u h _ _ => by rw [upd_ne (ne_of_none h hp)]; exact h, fun a l => ?_, fun _ _ _ h => h, Nat.le_refl _⟩
    rcases l with l | l
    · exact .inl (.inl l)
    · rcases List.mem_cons.mp l with rfl | l
      · exact .inr fun o z => by rw [hp] at z; cases z
      · exact .inl (.inr l)
  refine ⟨⟨r.len, r.nd, fun n a h => let ⟨xs, ws, h1, h2, h3, h4, h5⟩ := r.obs n a h; ⟨xs, ws, h1, by rw [upd_ne (ne_of_none h2 hp)]; exact h2, h3, h4.ext0 e, h5⟩, r.ded, fun a h => ?_, tabs_upd r.tabs hp⟩, e⟩
  rcases List.mem_cons.mp h with rfl | h
  · exact ⟨⟨vs, upd_same⟩, fun n z => r.fresh hp (.inl ⟨n, z⟩)⟩
  · obtain ⟨⟨ws, q⟩, g⟩ := r.hid a h
    exact ⟨⟨ws, by rw [upd_ne (ne_of_none q hp)]; exact q⟩, g⟩
/-- a block's list is written -/
theorem RS.fill {vs vs' : List V} (r : RS mg T m st H) (hm : p ∈ m.hid) (ha : H p = some (.lst vs)) : RS mg T m st (L2.upd H p (.lst vs')) ∧ Ext0 m H m (L2.upd H p (.lst vs')) := by
  have e : Ext0 m H m (L2.upd H p (.lst vs')) := ext_live (.inr hm) ha
  refine ⟨⟨r.len, r.nd, fun n a h => let ⟨xs, ws, h1, h2, h3, h4, h5⟩ := r.obs n a h; ⟨xs, ws, h1, by rw [upd_ne (fun z => (r.hid p hm).2 n (by rw [← z]; exact h))]; exact h2, h3, h4.ext0 e, h5⟩, r.ded, fun a h => ?_, r.ne_tab ha vs'⟩, e⟩
  by_cases z : a = p
  · subst z
    exact ⟨⟨vs', upd_same⟩, (r.hid a hm).2⟩
  · rw [upd_ne z]
    exact r.hid a h
/-- a block's list is handed out -/
theorem RS.show_ {hd : List Addr} (r : RS mg T m st H) (h : m.hid = p :: hd) : RS mg T ⟨m.l, hd⟩ st H ∧ Ext0 m H ⟨m.l, hd⟩ H := by
  have hl : ∀ a, live ⟨m.l, hd⟩ a → live m a := fun a l => l.elim .inl fun l => .inr (by rw [h]; exact List.mem_cons_of_mem _ l)
  refine ⟨⟨r.len, r.nd, fun n a q => let ⟨xs, ws, h1, h2, h3, h4, h5⟩ := r.obs n a q; ⟨xs, ws, h1, h2, h3, h4.less hl h5, h5⟩, r.ded, fun a q => r.hid a (by rw [h]; exact List.mem_cons_of_mem _ q), r.tabs⟩, ⟨fun _ _ h _ _ => h, fun a l => .inl (hl a l), fun _ _ _ h => h, Nat.le_refl _⟩⟩
/-- an object of the store becomes a value -/
theorem RS.freeze {n : Nat} {a : Addr} {xs : List D} (r : RS mg T m st H) (hn : m.l[n]? = some (some a)) (hs : st[n]? = some (.ml xs)) :
    RS mg T ⟨m.l.set n none, m.hid⟩ (st.set n .dead) H ∧ Ext m H ⟨m.l.set n none, m.hid⟩ H ∧ RV mg ⟨m.l.set n none, m.hid⟩ H (.ref a) (.list xs) := by
  have hlm : n < m.l.length := (List.getElem?_eq_some_iff.mp hn).1
  have hlt : n < st.length := by rw [← r.len]; exact hlm
  have sub : ∀ (i : Nat) b, (m.l.set n none)[i]? = some (some b) → i ≠ n ∧ m.l[i]? = some (some b) := fun i b h => by
    by_cases hin : i = n
    · subst hin
      rw [List.getElem?_set_self hlm] at h
      cases h
    · rw [List.getElem?_set_ne (Ne.symm hin)] at h
      exact ⟨hin, h⟩
  have subl : ∀ b, live ⟨m.l.set n none, m.hid⟩ b → live m b := fun b h => h.elim (fun ⟨i, h⟩ => .inl ⟨i, (sub i b h).2⟩) .inr
  obtain ⟨ys, vs, h1, h2, h3, h4, h5⟩ := r.obs n a hn
  rw [hs] at h1
  cases h1
  refine ⟨⟨by rw [List.length_set, List.length_set]; exact r.len, fun i j b hi hj => r.nd i j b (sub i b hi).2 (sub j b hj).2, fun i b hi => ?_, fun i hi => ?_, fun b hb => ⟨(r.hid b hb).1, fun i z => (r.hid b hb).2 i (sub i b z).2⟩, r.tabs⟩,
    ⟨⟨fun _ _ h _ _ => h, fun b l => .inl (subl b l), fun i b _ h => (sub i b h).2, by rw [List.length_set]; exact Nat.le_refl _⟩, rfl, fun _ _ => rfl⟩, ?_⟩
  · obtain ⟨hne, hi⟩ := sub i b hi
    obtain ⟨zs, ws, g1, g2, g3, g4, g5⟩ := r.obs i b hi
    exact ⟨zs, ws, by rw [List.getElem?_set_ne (Ne.symm hne)]; exact g1, g2, g3, g4.less subl g5, g5⟩
  · by_cases hin : i = n
    · subst hin
      rw [List.getElem?_set_self hlt]
    · rw [List.getElem?_set_ne (Ne.symm hin)] at hi ⊢
      exact r.ded i hi
  · refine .lst (.inl h2) (fun l => ?_) h3 (h4.less subl h5)
    rcases l with ⟨i, hi⟩ | l
    · obtain ⟨hne, hi⟩ := sub i a hi
      exact hne (r.nd i n a hi hn)
    · exact (r.hid a l).2 n hn
/-- the store's end is let go -/
theorem take_get {k : Nat} {i : Nat} {x : Option Addr} (h : (m.l.take k)[i]? = some x) : i < k ∧ m.l[i]? = some x := by
  rw [List.getElem?_take] at h
  split at h
  · exact ⟨by assumption, h⟩
  · cases h
theorem live_take {k : Nat} {a : Addr} (h : live ⟨m.l.take k, m.hid⟩ a) : live m a := h.elim (fun ⟨n, h⟩ => .inl ⟨n, (take_get h).2⟩) .inr
theorem RS.take (r : RS mg T m st H) (k : Nat) : RS mg T ⟨m.l.take k, m.hid⟩ (st.take k) H := by
  refine ⟨by rw [List.length_take, List.length_take, r.len], fun i j a hi hj => r.nd i j a (take_get hi).2 (take_get hj).2, fun i a hi => ?_, fun i hi => ?_, fun b hb => ⟨(r.hid b hb).1, fun i z => (r.hid b hb).2 i (take_get z).2⟩, r.tabs⟩
  · obtain ⟨hk, hi⟩ := take_get hi
    obtain ⟨xs, vs, h1, h2, h3, h4, h5⟩ := r.obs i a hi
    exact ⟨xs, vs, by rw [List.getElem?_take_of_lt hk]; exact h1, h2, h3, h4.less (fun _ => live_take) h5, h5⟩
  · obtain ⟨hk, hi⟩ := take_get hi
    rw [List.getElem?_take_of_lt hk]
    exact r.ded i hi
theorem Ext.take {m₀ : MA} {H₀ : Hp} (e : Ext m₀ H₀ m H) : Ext m₀ H₀ ⟨m.l.take m₀.l.length, m.hid⟩ H where
  keep := e.keep
  new := fun a l => e.new a (live_take l)
  old := fun n a hn h => e.old n a hn (by rw [List.getElem?_take_of_lt hn] at h; exact h)
  len := by rw [List.length_take]; have := e.len; omega
  hid := e.hid
  hk := e.hk
/-- the object that a value of the store names -/
theorem RV.at_obj {v : V} {i : Int} {xs : List D} (r : RS mg T m st H) (h : RV mg m H v (.dict [(.int i, .none)])) (hs : st[i.toNat]? = some (.ml xs)) :
    ∃ a vs, v = .ref a ∧ m.l[i.toNat]? = some (some a) ∧ H a = some (.lst vs) ∧ vs.length ≤ LIM ∧ RVs mg m H vs xs ∧ norefs xs = true := by
  cases h with
  | @obj a n hn hb =>
    have e : ((n : Int)).toNat = n := Int.toNat_natCast n
    rw [e] at hs ⊢
    cases q : m.l[n]? with
    | none =>
      rw [List.getElem?_eq_none_iff] at q
      omega
    | some o => cases o with
      | none =>
        have := r.ded n q
        rw [hs] at this
        cases this
      | some b =>
        obtain rfl := hb b q
        obtain ⟨ys, vs, h1, h2, h3, h4, h5⟩ := r.obs n b q
        rw [hs] at h1
        cases h1
        exact ⟨b, vs, rfl, rfl, h2, h3, h4, h5⟩
end
structure RE (mg : MG) (m : MA) (H : Hp) (ρ : Rho) (σ : L2.St) : Prop where
  len : σ.length = ρ.length
  at_ : ∀ (i : Nat) d, ρ[i]? = some (some d) → ∃ v, σ[i]? = some (some v) ∧ RV mg m H v d
structure Rel (mg : MG) (T : List (Addr × Str)) (m : MA) (ρ : Rho) (st : Sto) (σ : L2.St) (H : Hp) : Prop where
  rs : RS mg T m st H
  re : RE mg m H ρ σ
section
variable {mg : MG} {T : List (Addr × Str)} {m m' : MA} {st st' : Sto} {H H' : Hp} {ρ : Rho} {σ : L2.St}
theorem RE.ext0 (r : RE mg m H ρ σ) (e : Ext0 m H m' H') : RE mg m' H' ρ σ := ⟨r.len, fun i d h => let ⟨v, h1, h2⟩ := r.at_ i d h; ⟨v, h1, h2.ext0 e⟩⟩
theorem RE.ext (r : RE mg m H ρ σ) (e : Ext m H m' H') : RE mg m' H' ρ σ := r.ext0 e.toExt0
theorem Rel.ext (r : Rel mg T m ρ st σ H) (rs : RS mg T m' st' H') (e : Ext m H m' H') : Rel mg T m' ρ st' σ H' := ⟨rs, r.re.ext e⟩
theorem RE.set {i : Nat} {v : V} {d : D} (r : RE mg m H ρ σ) (h : RV mg m H v d) : RE mg m H (ρ.set i (some d)) (σ.set i (some v)) := by
  refine ⟨by rw [List.length_set, List.length_set]; exact r.len, fun j e hj => ?_⟩
  by_cases hij : i = j
  · subst hij
    by_cases hl : i < ρ.length
    · rw [List.getElem?_set_self hl] at hj
      cases hj
      exact ⟨v, by rw [List.getElem?_set_self (by rw [r.len]; exact hl)], h⟩
    · rw [List.getElem?_eq_none (by rw [List.length_set]; omega)] at hj
      cases hj
  · rw [List.getElem?_set_ne hij] at hj ⊢
    exact r.at_ j e hj
theorem RE.clear {i : Nat} (r : RE mg m H ρ σ) : RE mg m H (ρ.set i none) (σ.set i none) := by
  refine ⟨by rw [List.length_set, List.length_set]; exact r.len, fun j e hj => ?_⟩
  by_cases hij : i = j
  · subst hij
    by_cases hl : i < ρ.length
    · rw [List.getElem?_set_self hl] at hj
      cases hj
    · rw [List.getElem?_eq_none (by rw [List.length_set]; omega)] at hj
      cases hj
  · rw [List.getElem?_set_ne hij] at hj ⊢
    exact r.at_ j e hj
theorem RE.wipe (r : RE mg m H ρ σ) : ∀ vs : List Nat, RE mg m H (wip ρ vs) (L2.wipe σ vs)
  | [] => r
  | v :: vs => (RE.wipe r vs).clear
end
end MP
set_option Elab.async false
set_option linter.all false
set_option maxRecDepth 100000
namespace MP
open PySem PySem.Spec PyProof.Rows L2 LamX

/-- what is wanted of a value that an operation gives -/
abbrev Giv (mg : MG) (T : List (Addr × Str)) (m : MA) (st : Sto) (H : Hp) (d : D) (Q : VK) : Prop := ∀ v H', RS mg T m st H' → Ext m H m H' → RV mg m H' v d → Q v H'
section
variable {mg : MG} {T : List (Addr × Str)} {m : MA} {st : Sto} {H : Hp} {d : D} {Q : VK}
theorem Giv.same {v : V} (g : Giv mg T m st H d Q) (r : RS mg T m st H) (h : RV mg m H v d) : Q v H := g v H r (Ext.refl _ _) h
theorem Giv.lst {vs : List V} {ds : List D} {p : Addr} (g : Giv mg T m st H (.list ds) Q) (r : RS mg T m st H) (hp : H p = none) (h : RVs mg m H vs ds) (l : vs.length ≤ LIM) : Q (.ref p) (upd H p (.lst vs)) :=
  g _ _ (r.upd hp) (r.ext_upd hp) (RV.new_lst r hp h l)
theorem Giv.tup {vs : List V} {ds : List D} {p : Addr} (g : Giv mg T m st H (.tuple ds) Q) (r : RS mg T m st H) (hp : H p = none) (h : RVs mg m H vs ds) (l : vs.length ≤ LIM) : Q (.ref p) (upd H p (.tup vs)) :=
  g _ _ (r.upd hp) (r.ext_upd hp) (RV.new_tup r hp h l)
end
theorem lim_eq : LIM = sizeLine := by rw [sizeLine_eq]; rfl
theorem rep_length {α : Type} (k : Int) (xs : List α) : (rep k xs).length = k.toNat * xs.length := by
  unfold rep
  generalize k.toNat = n
  induction n with
  | zero => simp
  | succ n ih => rw [List.replicate_succ, List.flatten_cons, List.length_append, ih, Nat.succ_mul]; omega
section
variable {X : Cx} {mg : MG} {pins : List (Addr × Obj)} {σ : L2.St} {H : Hp} {s : Shared}
/-- a list that is read, by its object -/
theorem rd_list {a : Addr} {vs : List V} (I : Inv X pins σ H s) (h : Rd H a (.lst vs)) : vs.length ≤ sizeLine ∧ ∃ (its : List Value) (n : Nat), Vals vs its ∧ s.heap.get? a = some { cls := .type "list", data := .seq its.toArray n } := h.ok I.hok

def rCatS : R2 := fun x y H Q => ∃ l b xs zs, x = .ref l ∧ y = .ref b ∧ Rd H l (.lst xs) ∧ Rd H b (.lst zs) ∧ xs.length + zs.length ≤ sizeLine ∧ ∀ p, H p = none → Q (.ref p) (upd H p (.lst (xs ++ zs)))
theorem op_catS : OpR X (binaryOp .Add) rCatS := by
  intro pins s σ H x y v u Q I rx ry h
  obtain ⟨l, b, xs, zs, rfl, rfl, hl, hb, hz, q⟩ := h
  cases rx; cases ry
  obtain ⟨_, i1, n1, r1, e1⟩ := rd_list I hl
  obtain ⟨_, i2, n2, r2, e2⟩ := rd_list I hb
  have z1 := r1.length
  have z2 := r2.length
  refine PySem.P.add_list e1 e2 ?_ (by simp only [List.size_toArray]; omega)
  rw [show i1.toArray ++ i2.toArray = (i1 ++ i2).toArray from by simp]
  exact ⟨.ref _, _, I.lnew (t' := s.toks) (r1.append r2) (by rw [List.length_append]; exact hz), rfl, q _ I.fresh⟩

theorem tuple_mul1 (l : Addr) (items : Array Value) (n : Nat) (dd : Option Addr) (sl : Array (Option Value)) (u : Tok) :
    Meets (Builtin.«tuple.__mul__» ⟨[.ref l, .int 1 u], []⟩) (fun _ R s => s.heap.get? l = some { cls := .type "tuple", dict := dd, data := .seq items n, slots := sl } ∧ R (.ok (.ret (.ref l))) s) :=
  .of_wp fun prog w A R s h => by
    obtain ⟨hp, g, d, tk, os⟩ := s
    obtain ⟨hl, h⟩ := h
    have f1 := AutoSeq1.idx_int
    wp_walk using wpAny_loadPart' hl
    repeat (first
      | (refine wpAny_ite_true (by simp) ?_; wp_walk using wpAny_loadPart' hl)
      | (refine wpAny_ite_false (by simp) ?_; wp_walk using wpAny_loadPart' hl))
    exact ⟨_, rfl, h⟩

theorem tuple_mul0 (l : Addr) (items : Array Value) (n : Nat) (dd : Option Addr) (sl : Array (Option Value)) (x : Int) (u : Tok) (hx : x ≤ 0) (h1 : -(2 ^ 63) ≤ x) (hi : items.isEmpty = false) :
    Meets (Builtin.«tuple.__mul__» ⟨[.ref l, .int x u], []⟩) (fun _ R s => s.heap.get? l = some { cls := .type "tuple", dict := dd, data := .seq items n, slots := sl } ∧
      R (.ok (.ret (.ref s.heap.objs.size))) { s with heap := s.heap.push { cls := .type "tuple", data := .seq #[] } }) :=
  .of_wp fun prog w A R s h => by
    obtain ⟨hp, g, d, tk, os⟩ := s
    obtain ⟨hl, h⟩ := h
    have f1 := AutoSeq1.idx_int
    have c0 : (decide (x < -(2 ^ 63)) || decide (x ≥ 2 ^ 63)) = false := by simp; omega
    have c1 : (items.isEmpty || x == 1) = false := by rw [hi]; simp; omega
    have c2 : (decide (x ≤ 0) || items.isEmpty) = true := by simp [hx]
    wp_walk using wpAny_loadPart' hl
    repeat (first
      | (refine wpAny_ite_false (decide_eq_false (by rw [c0]; exact Bool.false_ne_true)) ?_; wp_walk using wpAny_loadPart' hl)
      | (refine wpAny_ite_false (decide_eq_false (by rw [c1]; exact Bool.false_ne_true)) ?_; wp_walk using wpAny_loadPart' hl)
      | (refine wpAny_ite_true (decide_eq_true c2) ?_; wp_walk using wpAny_loadPart' hl))
    exact ⟨_, rfl, h⟩
/-- t * k, t not empty -/
def rRepTS (K : PySem.W.Frag) : R2 := fun x y H Q => ∃ l k xs, x = .ref l ∧ y = .int k ∧ SqT K H l xs ∧ xs ≠ [] ∧ -1000 < k ∧ k < 1000 ∧ xs.length ≤ 1000 ∧
  (k = 1 → Q (.ref l) H) ∧ (k ≠ 1 → ∀ p, H p = none → Q (.ref p) (upd H p (.tup (rep k xs))))
theorem op_repTS : OpR X (binaryOp .Mult) (rRepTS X.K) := by
  intro pins s σ H x y v u Q I rx ry h
  obtain ⟨l, k, xs, rfl, rfl, hT, hne, h1, h2, hz, q1, q2⟩ := h
  by_cases hk : 2 ≤ k
  · exact op_repT pins s σ H _ _ _ _ Q I rx ry ⟨l, k, xs, rfl, rfl, hT, hne, hk, by omega, hz, q2 (by omega)⟩
  cases rx
  obtain ⟨t, rfl⟩ := ry
  obtain ⟨its, r, ⟨⟨cls, dd, data, sl⟩, ho, hc, n, hd⟩, hs⟩ := I.tuple hT
  dsimp only at hc hd
  subst hc hd
  by_cases he : k = 1
  · subst he
    refine wpAny_binaryOp_repeat_ref (T := "tuple") (U := "int") (by decide) ⟨_, ho, rfl⟩ (fun s' => typeIs_int s' 1 t) noFill_tuple_mul F.fills_int_mul F.slot_int_rmul repeat_tuple F.slot_int_index.lookup
      (call_meets F.slot_int_rmul (typeIs_int s 1 t) F.entry_int_rmul (F.args_int_rmul_2 _ _) (int_rmul_tuple 1 t l its.toArray n dd sl)
        ⟨ho, rfl, ⟨_, ho, rfl⟩, call_meets F.slot_tuple_mul ⟨_, ho, rfl⟩ F.entry_tuple_mul (F.args_tuple_mul_2 _ _) (tuple_mul1 l its.toArray n dd sl t) ⟨ho, ?_⟩⟩)
    exact ⟨.ref l, H, I, rfl, q1 rfl⟩
  · have hi : its.toArray.isEmpty = false := by
      cases its with
      | nil => cases r; exact absurd rfl hne
      | cons a b => rfl
    refine wpAny_binaryOp_repeat_ref (T := "tuple") (U := "int") (by decide) ⟨_, ho, rfl⟩ (fun s' => typeIs_int s' k t) noFill_tuple_mul F.fills_int_mul F.slot_int_rmul repeat_tuple F.slot_int_index.lookup
      (call_meets F.slot_int_rmul (typeIs_int s k t) F.entry_int_rmul (F.args_int_rmul_2 _ _) (int_rmul_tuple k t l its.toArray n dd sl)
        ⟨ho, rfl, ⟨_, ho, rfl⟩, call_meets F.slot_tuple_mul ⟨_, ho, rfl⟩ F.entry_tuple_mul (F.args_tuple_mul_2 _ _) (tuple_mul0 l its.toArray n dd sl k t (by omega) (by omega) hi) ⟨ho, ?_⟩⟩)
    have e0 : rep k xs = [] := by unfold rep; rw [show k.toNat = 0 by omega]; rfl
    have q3 := q2 he s.heap.objs.size I.fresh
    rw [e0] at q3
    refine ⟨.ref s.heap.objs.size, _, I.laid (t' := s.toks) (o := .tup []) (fun b ob q => Heap.get?_push_of_some _ q) (Nat.le_refl _) ?_, rfl, q3⟩
    exact ⟨Nat.zero_le _, [], .nil, IsTup.new _ _⟩
def rRepS : R2 := fun x y H Q => ∃ l k xs, x = .ref l ∧ y = .int k ∧ Rd H l (.lst xs) ∧ -1000 < k ∧ k < 1000 ∧ xs.length ≤ 1000 ∧ ∀ p, H p = none → Q (.ref p) (upd H p (.lst (rep k xs)))
theorem op_repS : OpR X (binaryOp .Mult) rRepS := by
  intro pins s σ H x y v u Q I rx ry h
  obtain ⟨l, k, xs, rfl, rfl, hH, h1, h2, hz, q⟩ := h
  cases rx
  obtain ⟨t, rfl⟩ := ry
  obtain ⟨_, its, n, r, e⟩ := rd_list I hH
  have hl := r.length
  have hm : its.length * k.toNat ≤ 1000 * 1000 := Nat.mul_le_mul (by omega) (by omega)
  have sl : sizeLine = 16777216 := sizeLine_eq
  have hfit : ¬ (!Builtin.List.listFitsIndex k) = true := by
    rw [fitsIndex_both (by omega) (by omega)]
    decide
  have hlong : ¬ Builtin.List.listTooLong (its.toArray.size * k.toNat) = true := by
    rw [notLongL (by rw [List.size_toArray]; omega)]
    decide
  have hnew : List.foldl (fun x1 x2 => x1 ++ x2) #[] (List.replicate (if its.toArray.isEmpty = true then 0 else k.toNat) its.toArray) = (rep k its).toArray := by
    have f0 : ∀ m : Nat, List.foldl (fun x1 x2 => x1 ++ x2) #[] (List.replicate m its.toArray) = (List.replicate m its).flatten.toArray := fun m => by
      have := foldl_rep its m []
      rw [List.nil_append] at this
      exact this
    rw [f0]
    unfold rep
    cases its with
    | nil => simp
    | cons a r' => rw [if_neg (by simp)]
  refine wpAny_binaryOp_repeat_ref (T := "list") (U := "int") (by decide) ⟨_, e, rfl⟩ (fun s' => typeIs_int s' k t) noFill_list_mul F.fills_int_mul F.slot_int_rmul repeat_list F.slot_int_index.lookup
    (call_meets F.slot_int_rmul (typeIs_int s k t) F.entry_int_rmul (F.args_int_rmul_2 _ _) (int___rmul___int_list k t l its.toArray n)
      ⟨e, rfl, ⟨_, e, rfl⟩, call_meets F.slot_list_mul ⟨_, e, rfl⟩ F.entry_list_mul (F.args_list_mul_2 _ _) (AutoListH.list___mul___list_int_3 l its.toArray n k t hfit (by rw [List.size_toArray]; omega) hlong) ⟨e, ?_⟩⟩)
  rw [hnew]
  exact ⟨.ref _, _, I.lnew (t' := s.toks) (r.rep k.toNat) (by show (rep k xs).length ≤ _; rw [rep_length, Nat.mul_comm, hl]; omega), rfl, q _ I.fresh⟩

def rBin (mg : MG) (T : List (Addr × Str)) (op : Operator) : R2 := fun x y H Q => ∃ m st dx dy d, RS mg T m st H ∧ RV mg m H x dx ∧ RV mg m H y dy ∧ binop op dx dy = some d ∧ Giv mg T m st H d Q
theorem small_iff {i : Int} (h : small i = true) : -(2 ^ 64) < i ∧ i < 2 ^ 64 := by
  have := of_decide_eq_true h
  omega
def rMulS : R2 := fun x y H Q => ∃ z k, x = .str z ∧ y = .int k ∧ z.length ≤ 1000 ∧ 0 ≤ k ∧ k ≤ 1000 ∧ Q (.str (Txt.mul z k)) H
theorem op_mulS : OpR X (binaryOp .Mult) rMulS := by
  intro pins s σ H x y v u Q I rx ry h
  obtain ⟨z, k, rfl, rfl, hz, h0, h1, q⟩ := h
  obtain ⟨t, rfl⟩ := rx
  obtain ⟨t', rfl⟩ := ry
  refine SB.mul ⟨?_, fun hk _ => ?_, fun hk _ => ?_⟩ fun t2 tk => ⟨.str _, H, I.tok _, ⟨_, rfl⟩, q⟩
  · rw [decide_eq_false (by omega), decide_eq_false (by omega)]
    rfl
  · have : (9223372036854775807 : Int) / 1000 ≤ (2 ^ 63 - 1) / k := by
      have hk0 : 0 < k := by omega
      rw [Int.le_ediv_iff_mul_le hk0]
      have : (9223372036854775807 : Int) / 1000 * k ≤ 9223372036854775807 / 1000 * 1000 := Int.mul_le_mul_of_nonneg_left h1 (by decide)
      omega
    omega
  · have hm : z.length * k.toNat ≤ 1000 * 1000 := Nat.mul_le_mul hz (by omega)
    have sl : sizeLine = 16777216 := sizeLine_eq
    exact decide_eq_false (by omega)
theorem op_bin {T : List (Addr × Str)} {op : Operator} : OpR X (binaryOp op) (rBin mg T op) := by
  intro pins s σ H x y v u Q I rx ry h
  obtain ⟨m, st, dx, dy, d, r, hx, hy, hb, g⟩ := h
  have run : ∀ {rr : R2}, OpR X (binaryOp op) rr → rr x y H Q → wpAny (model X.prog X.w) X.A (binaryOp op v u) (EP X pins σ Q) X.xe s := fun o q => o pins s σ H x y v u Q I rx ry q
  have sl : LIM = sizeLine := lim_eq
  unfold binop at hb
  split at hb
  · cases hx; cases hy; cases hb
    exact run op_add ⟨_, _, rfl, rfl, g.same r (.int _)⟩
  · cases hx; cases hy
    split at hb
    · cases hb
      exact run op_add_str ⟨_, _, rfl, rfl, by omega, g.same r (.str _)⟩
    · cases hb
  · split at hb
    · rename_i hl
      cases hb
      cases hx with
      | @lst xa xs _ h1 n1 l1 t1 => cases hy with
        | @lst ya ys _ h2 n2 l2 t2 =>
          have e1 := t1.length
          have e2 := t2.length
          exact run op_catS ⟨_, _, _, _, rfl, rfl, h1, h2, by omega, fun p hp => g.lst r hp (t1.append t2) (by rw [List.length_append]; omega)⟩
    · cases hb
  · split at hb
    · rename_i a b hl
      cases hb
      cases hx with
      | @tup xa xs _ h1 n1 l1 t1 => cases hy with
        | @tup ya ys _ h2 n2 l2 t2 =>
          have e1 := t1.length
          have e2 := t2.length
          refine run op_catA ⟨_, _, _, _, rfl, rfl, .inl h1, .inl h2, by omega, fun q => ?_, fun _ q => ?_, fun _ _ p hp => g.tup r hp (t1.append t2) (by rw [List.length_append]; omega)⟩
          · subst q
            cases t1
            exact g.same r (.tup h2 n2 l2 t2)
          · subst q
            cases t2
            rw [List.append_nil] at g
            exact g.same r (.tup h1 n1 l1 t1)
    · cases hb
  · cases hx; cases hy; cases hb
    exact run op_sub ⟨_, _, rfl, rfl, g.same r (.int _)⟩
  · cases hx; cases hy
    split at hb
    · rename_i hs
      cases hb
      refine run op_mul ⟨_, _, rfl, rfl, ?_, g.same r (.int _)⟩
      rw [Bool.or_eq_true] at hs
      exact hs.elim (fun z => .inl (small_iff z)) fun z => .inr (small_iff z)
    · cases hb
  · split at hb
    · rename_i a k hs
      cases hb
      simp only [Bool.and_eq_true, decide_eq_true_eq] at hs
      cases hy
      cases hx with
      | @lst xa xs _ h1 n1 l1 t1 =>
        have e1 := t1.length
        refine run op_repS ⟨_, _, _, rfl, rfl, h1, by omega, by omega, by omega, fun p hp => g.lst r hp (t1.rep _) ?_⟩
        show (rep _ _).length ≤ _
        rw [rep_length]
        have : Int.toNat k * xs.length ≤ 1000 * 1000 := Nat.mul_le_mul (by omega) (by omega)
        unfold LIM
        omega
    · cases hb
  · split at hb
    · rename_i a k hs
      cases hb
      simp only [Bool.and_eq_true, decide_eq_true_eq, Bool.not_eq_true'] at hs
      cases hy
      cases hx with
      | @tup xa xs _ h1 n1 l1 t1 =>
        have e1 := t1.length
        refine run op_repTS ⟨_, _, _, rfl, rfl, .inl h1, fun z => ?_, by omega, by omega, by omega, fun q => ?_, fun _ p hp => g.tup r hp (t1.rep _) ?_⟩
        · subst z
          cases t1
          simp at hs
        · subst q
          have e : rep 1 a = a := by simp [rep]
          rw [e] at g
          exact g.same r (.tup h1 n1 l1 t1)
        · show (rep _ _).length ≤ _
          rw [rep_length]
          have : Int.toNat k * xs.length ≤ 1000 * 1000 := Nat.mul_le_mul (by omega) (by omega)
          unfold LIM
          omega
    · cases hb
  · cases hx; cases hy
    split at hb
    · rename_i hs
      cases hb
      simp only [Bool.and_eq_true, decide_eq_true_eq] at hs
      exact run op_mulS ⟨_, _, rfl, rfl, hs.1.1, hs.1.2, hs.2, g.same r (.str _)⟩
    · cases hb
  · cases hx; cases hy
    split at hb
    · rename_i hs
      cases hb
      simp only [Bool.and_eq_true, decide_eq_true_eq] at hs
      exact run op_fdiv ⟨_, _, rfl, rfl, hs, g.same r (.int _)⟩
    · cases hb
  · cases hx; cases hy
    split at hb
    · rename_i hs
      cases hb
      simp only [decide_eq_true_eq] at hs
      exact run op_mod ⟨_, _, rfl, rfl, hs, g.same r (.int _)⟩
    · cases hb
  · cases hx; cases hy
    split at hb
    · rename_i i j hs
      cases hb
      simp only [Bool.and_eq_true, decide_eq_true_eq] at hs
      refine run op_pow ⟨_, _, rfl, rfl, ⟨hs.1.1, hs.1.2, ?_⟩, g.same r (.int _)⟩
      have := small_iff hs.2
      omega
    · cases hb
  · cases hb
end
end MP
set_option Elab.async false
set_option linter.all false
set_option maxRecDepth 100000
namespace MP
open PySem PySem.Spec PyProof.Rows L2 LamX
section
variable {X : Cx} {mg : MG} {pins : List (Addr × Obj)} {σ : L2.St} {H : Hp} {s : Shared}

theorem flat_v {mg : MG} {m : MA} {v : V} {d : D} (r : RV mg m H v d) (f : isFlat d = true) : flatV v = true := by
  cases r <;> first | rfl | cases f
theorem eqv_flat {mg : MG} {m : MA} {v w : V} {d e : D} (r : RV mg m H v d) (q : RV mg m H w e) (f : isFlat d = true) (g : isFlat e = true) : eqV v w = PyData.eqv d e := by
  cases r <;> first
    | (cases f; done)
    | (cases q <;> first | (cases g; done) | (simp only [eqV, PyData.eqv]; done) | simp [eqV, PyData.eqv])
theorem any_flat {mg : MG} {m : MA} {x : V} {d : D} (r : RV mg m H x d) (f : isFlat d = true) : ∀ {vs : List V} {ds : List D}, RVs mg m H vs ds → ds.all isFlat = true →
    vs.all flatV = true ∧ (vs.any fun y => eqV y x) = ds.any fun z => PyData.eqv z d
  | _, _, .nil, _ => ⟨rfl, rfl⟩
  | _, _, .cons a t, g => by
    simp only [List.all_cons, Bool.and_eq_true] at g
    obtain ⟨h1, h2⟩ := any_flat r f t g.2
    simp only [List.all_cons, List.any_cons, flat_v a g.1, h1, h2, eqv_flat a r g.1 f, Bool.and_self, and_self]
def rCmp (mg : MG) (T : List (Addr × Str)) (op : CmpOp) : R2 := fun x y H Q => ∃ m st dx dy b, RS mg T m st H ∧ RV mg m H x dx ∧ RV mg m H y dy ∧ cmpop op dx dy = some b ∧ Q (.bl b) H
theorem canLay_of {d : D} (h : SeqAt.shaped d = true) : d.canLay0 = true := SeqAt.canLay_of_shaped h
theorem op_cmp {T : List (Addr × Str)} {op : CmpOp} (hu : X.A.units + 64 < cLine) : OpR X (compareOp op) (rCmp mg T op) := by
  intro pins s σ H x y v u Q I rx ry h
  obtain ⟨m, st, dx, dy, b, r, hx, hy, hb, q⟩ := h
  have run : ∀ {rr : R2}, OpR X (compareOp op) rr → rr x y H Q → wpAny (model X.prog X.w) X.A (compareOp op v u) (EP X pins σ Q) X.xe s := fun o q => o pins s σ H x y v u Q I rx ry q
  cases op with
  | Eq =>
    simp only [cmpop] at hb
    by_cases ho : okEq dx dy = true
    · rw [if_pos ho] at hb
      cases hb
      have hs := Bool.and_eq_true_iff.mp ho
      exact run (op_eqD hu) ⟨dx, dy, hx.dp (canLay_of hs.1), hy.dp (canLay_of hs.2), hs.1, hs.2, q⟩
    · rw [if_neg ho] at hb
      cases hb
  | NotEq =>
    simp only [cmpop] at hb
    by_cases ho : okEq dx dy = true
    · rw [if_pos ho] at hb
      cases hb
      have hs := Bool.and_eq_true_iff.mp ho
      exact run (op_neD hu) ⟨dx, dy, hx.dp (canLay_of hs.1), hy.dp (canLay_of hs.2), hs.1, hs.2, q⟩
    · rw [if_neg ho] at hb
      cases hb
  | Lt =>
    simp only [cmpop] at hb
    split at hb
    · cases hx; cases hy; cases hb
      exact run op_lt ⟨_, _, rfl, rfl, q⟩
    · simp only [ordT] at hb
      split at hb
      · split at hb
        · rename_i xs ys _ _ is js e1 e2
          cases hb
          cases hx with
          | @tup xa vs _ h1 n1 l1 t1 => cases hy with
            | @tup ya ws _ h2 n2 l2 t2 =>
              have f1 := t1.ints_of e1
              have f2 := t2.ints_of e2
              subst f1 f2
              exact run (op_ltT (by omega)) ⟨_, _, _, _, rfl, rfl, .inl h1, .inl h2, q⟩
        · cases hb
      · cases hb
  | LtE =>
    simp only [cmpop] at hb
    split at hb
    · cases hx; cases hy; cases hb
      exact run op_le ⟨_, _, rfl, rfl, q⟩
    · cases hb
  | Gt =>
    simp only [cmpop] at hb
    split at hb
    · cases hx; cases hy; cases hb
      exact run op_gt ⟨_, _, rfl, rfl, q⟩
    · cases hb
  | GtE =>
    simp only [cmpop] at hb
    split at hb
    · cases hx; cases hy; cases hb
      exact run op_ge ⟨_, _, rfl, rfl, q⟩
    · cases hb
  | Is =>
    simp only [cmpop] at hb
    split at hb
    · cases hx; cases hy; cases hb
      exact run op_isN ⟨rfl, q⟩
    · rename_i hne
      cases hy; cases hb
      refine run op_isN ⟨rfl, ?_⟩
      cases hx <;> first | exact q | exact absurd rfl hne
    · cases hx; cases hy; cases hb
      exact run op_isBl ⟨_, _, rfl, rfl, by rw [Bool.beq_eq_decide_eq] at q; exact q⟩
    · cases hb
  | IsNot =>
    simp only [cmpop] at hb
    split at hb
    · cases hx; cases hy; cases hb
      exact run op_notN ⟨rfl, q⟩
    · rename_i hne
      cases hy; cases hb
      refine run op_notN ⟨rfl, ?_⟩
      cases hx <;> first | exact q | exact absurd rfl hne
    · cases hx; cases hy; cases hb
      exact run op_notBl ⟨_, _, rfl, rfl, by rw [Bool.beq_eq_decide_eq] at q; exact q⟩
    · cases hb
  | In =>
    simp only [cmpop] at hb
    split at hb
    · split at hb
      · rename_i x z _ c e
        cases hx; cases hy; cases hb
        have ex : x = ⟨#[c]⟩ := by
          obtain ⟨⟨l⟩⟩ := x
          have e2 : l = [c] := e
          rw [e2]
        exact run op_in_sign ⟨c, z, by rw [ex], rfl, q⟩
      · cases hb
    · split at hb
      · rename_i hf
        rw [Bool.and_eq_true] at hf
        cases hb
        cases hy with
        | lst h1 n1 l1 t1 =>
          obtain ⟨g1, g2⟩ := any_flat hx hf.1 t1 hf.2
          exact run op_in_seq ⟨_, _, rfl, .inl (.inl h1), flat_v hx hf.1, g1, by unfold inV; rw [g2]; exact q⟩
      · cases hb
    · split at hb
      · rename_i hf
        rw [Bool.and_eq_true] at hf
        cases hb
        cases hy with
        | tup h1 n1 l1 t1 =>
          obtain ⟨g1, g2⟩ := any_flat hx hf.1 t1 hf.2
          exact run op_in_seq ⟨_, _, rfl, .inr (.inl h1), flat_v hx hf.1, g1, by unfold inV; rw [g2]; exact q⟩
      · cases hb
    · cases hb
  | NotIn =>
    simp only [cmpop] at hb
    split at hb
    · split at hb
      · rename_i x z _ c e
        cases hx; cases hy; cases hb
        have ex : x = ⟨#[c]⟩ := by
          obtain ⟨⟨l⟩⟩ := x
          have e2 : l = [c] := e
          rw [e2]
        exact run op_notIn_sign ⟨c, z, by rw [ex], rfl, q⟩
      · cases hb
    · split at hb
      · rename_i hf
        rw [Bool.and_eq_true] at hf
        cases hb
        cases hy with
        | lst h1 n1 l1 t1 =>
          obtain ⟨g1, g2⟩ := any_flat hx hf.1 t1 hf.2
          exact run op_notIn_seq ⟨_, _, rfl, .inl (.inl h1), flat_v hx hf.1, g1, by unfold inV; rw [g2]; exact q⟩
      · cases hb
    · split at hb
      · rename_i hf
        rw [Bool.and_eq_true] at hf
        cases hb
        cases hy with
        | tup h1 n1 l1 t1 =>
          obtain ⟨g1, g2⟩ := any_flat hx hf.1 t1 hf.2
          exact run op_notIn_seq ⟨_, _, rfl, .inr (.inl h1), flat_v hx hf.1, g1, by unfold inV; rw [g2]; exact q⟩
      · cases hb
    · cases hb

def rCmpS (mg : MG) (T : List (Addr × Str)) (op : CmpOp) : R2 := fun x y H Q => ∃ m st dx dy b, RS mg T m st H ∧ RV mg m H x dx ∧ RV mg m H y dy ∧ cmpop op dx (lookS op dy st) = some b ∧ Q (.bl b) H
theorem op_cmpS {T : List (Addr × Str)} {op : CmpOp} (hu : X.A.units + 64 < cLine) : OpR X (compareOp op) (rCmpS mg T op) := by
  intro pins s σ H x y v u Q I rx ry h
  obtain ⟨m, st, dx, dy, b, r, hx, hy, hb, q⟩ := h
  unfold lookS at hb
  split at hb
  · split at hb
    · rename_i n xs e
      split at hb
      · obtain ⟨a, vs, rfl, h1, h2, h3, h4, h5⟩ := hy.at_obj r e
        simp only [cmpop] at hb
        split at hb
        · rename_i hf
          rw [Bool.and_eq_true] at hf
          cases hb
          obtain ⟨g1, g2⟩ := any_flat hx hf.1 h4 hf.2
          exact op_in_seq pins s σ H x _ v u Q I rx ry ⟨_, _, rfl, .inl (.of h2), flat_v hx hf.1, g1, by unfold inV; rw [g2]; exact q⟩
        · cases hb
      · exact op_cmp hu pins s σ H x y v u Q I rx ry ⟨m, st, dx, _, b, r, hx, hy, hb, q⟩
    · exact op_cmp hu pins s σ H x y v u Q I rx ry ⟨m, st, dx, _, b, r, hx, hy, hb, q⟩
  · split at hb
    · rename_i n xs e
      split at hb
      · obtain ⟨a, vs, rfl, h1, h2, h3, h4, h5⟩ := hy.at_obj r e
        simp only [cmpop] at hb
        split at hb
        · rename_i hf
          rw [Bool.and_eq_true] at hf
          cases hb
          obtain ⟨g1, g2⟩ := any_flat hx hf.1 h4 hf.2
          exact op_notIn_seq pins s σ H x _ v u Q I rx ry ⟨_, _, rfl, .inl (.of h2), flat_v hx hf.1, g1, by unfold inV; rw [g2]; exact q⟩
        · cases hb
      · exact op_cmp hu pins s σ H x y v u Q I rx ry ⟨m, st, dx, _, b, r, hx, hy, hb, q⟩
    · exact op_cmp hu pins s σ H x y v u Q I rx ry ⟨m, st, dx, _, b, r, hx, hy, hb, q⟩
  · exact op_cmp hu pins s σ H x y v u Q I rx ry ⟨m, st, dx, _, b, r, hx, hy, hb, q⟩
theorem atI_rv {mg : MG} {m : MA} {vs : List V} {ds : List D} {i : Int} {d : D} (t : RVs mg m H vs ds) (h : nth ds i = some d) : ∃ v, L2.atI vs i = some v ∧ RV mg m H v d := by
  unfold nth L2.atI at h
  unfold L2.atI
  rw [t.length]
  cases e : L2.ixN ds.length i with
  | none => rw [e] at h; cases h
  | some j =>
    rw [e] at h
    obtain ⟨v, h1, h2⟩ := t.get (show ds[j]? = some d from h)
    exact ⟨v, h1, h2⟩
def rItem (mg : MG) (T : List (Addr × Str)) : R2 := fun x y H Q => ∃ m st dx dy d, RS mg T m st H ∧ RV mg m H x dx ∧ RV mg m H y dy ∧ item dx dy st = some d ∧ ∀ v, RV mg m H v d → Q v H
theorem ix_item {T : List (Addr × Str)} : IxR X (rItem mg T) := by
  intro value sl pins s σ H x y v u Q I rx ry h hp
  obtain ⟨m, st, dx, dy, d, r, hx, hy, hd, q⟩ := h
  refine ix_seq value sl pins s σ H x y v u Q I rx ry ?_ hp
  unfold item at hd
  split at hd
  · cases hy
    cases hx with
    | lst h1 n1 l1 t1 =>
      obtain ⟨w, h2, h3⟩ := atI_rv t1 hd
      exact .inl ⟨_, _, _, _, rfl, rfl, .inl h1, h2, q w h3⟩
  · cases hy
    cases hx with
    | tup h1 n1 l1 t1 =>
      obtain ⟨w, h2, h3⟩ := atI_rv t1 hd
      exact .inr (.inl ⟨_, _, _, _, rfl, rfl, .inl h1, h2, q w h3⟩)
  · cases hx
    cases hy
    split at hd
    · rename_i hl
      rw [Option.map_eq_some_iff] at hd
      obtain ⟨c, hc, rfl⟩ := hd
      exact .inr (.inr ⟨_, _, c, rfl, rfl, by rw [← lim_eq]; exact hl, hc, q _ (.str _)⟩)
    · cases hd
  · cases hy
    split at hd
    · rename_i xs e
      split at hd
      · obtain ⟨a, vs, rfl, h1, h2, h3, h4, h5⟩ := hx.at_obj r e
        obtain ⟨w, g1, g2⟩ := atI_rv h4 hd
        exact .inl ⟨_, _, _, _, rfl, rfl, .of h2, g1, q w g2⟩
      · cases hd
    · cases hd
  · cases hd
theorem cut_rv {mg : MG} {m : MA} {vs : List V} {ds : List D} (t : RVs mg m H vs ds) (lo hi : Option Int) : RVs mg m H (cutV vs lo hi) (cut ds lo hi) := by
  unfold cutV cut
  rw [t.length]
  exact (t.drop _).take _
theorem cut_whole {α : Type} (xs : List α) (lo hi : Option Int) (h : HT.sIx xs.length 0 lo = 0 ∧ HT.sIx xs.length xs.length hi = xs.length) : cut xs lo hi = xs := by
  unfold cut
  rw [h.1, h.2]
  simp
def rCut (mg : MG) (T : List (Addr × Str)) : V → Option Int → Option Int → Hp → VK → Prop := fun x lo hi H Q => ∃ m st dx d, RS mg T m st H ∧ RV mg m H x dx ∧ sliced dx lo hi = some d ∧ Giv mg T m st H d Q
theorem sl_cut {T : List (Addr × Str)} : SlR X (rCut mg T) := by
  intro pins s σ H x v vl vu lo hi sl Q I rx hs pl pu h
  refine (SlR.or (SlR.or sl_list sl_tupA) sl_str) pins s σ H x v vl vu lo hi sl Q I rx hs pl pu ?_
  obtain ⟨m, st, dx, d, r, hx, hd, g⟩ := h
  unfold sliced at hd
  split at hd
  · cases hd
    cases hx with
    | lst h1 n1 l1 t1 => exact .inl (.inl ⟨_, _, rfl, .inl h1, fun p hp => g.lst r hp (cut_rv t1 lo hi) (Nat.le_trans (cutV_length _ _ _) l1)⟩)
  · cases hd
    cases hx with
    | @tup xa vs ds h1 n1 l1 t1 =>
      refine .inl (.inr ⟨_, _, rfl, .inl h1, fun z => ?_, fun _ p hp => g.tup r hp (cut_rv t1 lo hi) (Nat.le_trans (cutV_length _ _ _) l1)⟩)
      rw [t1.length] at z
      rw [cut_whole _ _ _ z] at g
      exact g.same r (.tup h1 n1 l1 t1)
  · split at hd
    · rename_i hl
      cases hd
      cases hx
      exact .inr ⟨_, rfl, by rw [← lim_eq]; exact hl, g.same r (.str _)⟩
    · cases hd
  · cases hd
/-- o[i] = v -/
def rPut (mg : MG) (T : List (Addr × Str)) : TSet := fun o i v H Q => ∃ m st dx dy dv st', RS mg T m st H ∧ RV mg m H o dx ∧ RV mg m H i dy ∧ RV mg m H v dv ∧ putItem dx dy dv st = some st' ∧ ∀ H', RS mg T m st' H' → Ext m H m H' → Q H'
theorem norefs_set {v : D} (hv : noref v = true) : ∀ {xs : List D} (j : Nat), norefs xs = true → norefs (xs.set j v) = true
  | [], _, h => h
  | x :: xs, 0, h => by
    simp only [norefs, Bool.and_eq_true, List.set_cons_zero] at h ⊢
    exact ⟨hv, h.2⟩
  | x :: xs, j + 1, h => by
    simp only [norefs, Bool.and_eq_true, List.set_cons_succ] at h ⊢
    exact ⟨h.1, norefs_set hv j h.2⟩
theorem norefs_append {v : D} (hv : noref v = true) : ∀ {xs : List D}, norefs xs = true → norefs (xs ++ [v]) = true
  | [], h => by simp [norefs, hv]
  | x :: xs, h => by
    simp only [norefs, Bool.and_eq_true, List.cons_append] at h ⊢
    exact ⟨h.1, norefs_append hv h.2⟩
theorem set_put {T : List (Addr × Str)} : PSet X (rPut mg T) := by
  intro pins s σ H o i v ov iv u Q I ro ri rv h
  obtain ⟨m, st, dx, dy, dv, st', r, hx, hy, hv, hp, q⟩ := h
  refine set_list pins s σ H o i v ov iv u Q I ro ri rv ?_
  unfold putItem at hp
  split at hp
  · split at hp
    · rename_i n i xs e
      split at hp
      · rename_i j ej
        split at hp
        · rename_i hc
          cases hp
          cases hy
          rw [Bool.and_eq_true] at hc
          obtain ⟨a, vs, rfl, h1, h2, h3, h4, h5⟩ := hx.at_obj r e
          obtain ⟨w1, w2⟩ := r.write h1 h2 (h4.set hv j) (by rw [List.length_set]; exact h3) (norefs_set hc.2 j h5)
          exact ⟨a, vs, _, j, rfl, rfl, h2, by rw [h4.length]; exact ej, q _ w1 w2⟩
        · cases hp
      · cases hp
    · cases hp
  · cases hp
end
end MP
set_option Elab.async false
set_option linter.all false
set_option maxRecDepth 100000
namespace MP
open PySem PySem.Spec PyProof.Rows L2 LamX
section
variable {X : Cx} {mg : MG} {T : List (Addr × Str)}

def rBi (mg : MG) (T : List (Addr × Str)) (f : Str) : List V → Hp → VK → Prop := fun vs H Q => ∃ m st ds d, RS mg T m st H ∧ RVs mg m H vs ds ∧ bi f ds = some d ∧ Giv mg T m st H d Q
theorem vs1 {mg : MG} {m : MA} {H : Hp} {vs : List V} {d : D} (h : RVs mg m H vs [d]) : ∃ v, vs = [v] ∧ RV mg m H v d := by
  cases h with
  | cons a t => cases t; exact ⟨_, rfl, a⟩
theorem vs2 {mg : MG} {m : MA} {H : Hp} {vs : List V} {d e : D} (h : RVs mg m H vs [d, e]) : ∃ v w, vs = [v, w] ∧ RV mg m H v d ∧ RV mg m H w e := by
  cases h with
  | cons a t => cases t with
    | cons b t => cases t; exact ⟨_, _, rfl, a, b⟩
theorem cb_len : CallR X (.builtin "len") (rBi mg T "len") := by
  intro pins s σ H xs us Q I r h
  obtain ⟨m, st, ds, d, R, rv, hb, g⟩ := h
  have run : ∀ {rr : List V → Hp → VK → Prop}, CallR X (.builtin "len") rr → rr xs H Q → wpAny (model X.prog X.w) X.A (call (.builtin "len") us) (EP X pins σ Q) X.xe s := fun o q => o pins s σ H xs us Q I r q
  have sl : LIM = sizeLine := lim_eq
  simp only [bi] at hb
  rw [if_pos (by decide)] at hb
  split at hb
  · obtain ⟨v, rfl, a⟩ := vs1 rv
    cases hb
    cases a with
    | lst h1 n1 l1 t1 => exact run call_len_seq ⟨_, _, rfl, .inl (.inl h1), g.same R (by rw [t1.length]; exact .int _)⟩
  · obtain ⟨v, rfl, a⟩ := vs1 rv
    cases hb
    cases a with
    | tup h1 n1 l1 t1 => exact run call_len_seq ⟨_, _, rfl, .inr (.inl h1), g.same R (by rw [t1.length]; exact .int _)⟩
  · obtain ⟨v, rfl, a⟩ := vs1 rv
    split at hb
    · cases hb
      cases a
      exact run call_len_str ⟨_, rfl, by omega, g.same R (.int _)⟩
    · cases hb
  · cases hb
theorem cb_any (hc : X.calm = true) : CallR X (.builtin "any") (rBi mg T "any") := by
  intro pins s σ H xs us Q I r h
  obtain ⟨m, st, ds, d, R, rv, hb, g⟩ := h
  simp only [bi] at hb
  rw [if_neg (by decide), if_neg (by decide), if_pos (by decide)] at hb
  split at hb
  · obtain ⟨v, rfl, a⟩ := vs1 rv
    rw [Option.map_eq_some_iff] at hb
    obtain ⟨bs, e, rfl⟩ := hb
    cases a with
    | lst h1 n1 l1 t1 =>
      obtain rfl := t1.bools_of e
      exact cr_any hc pins s σ H _ us Q I r ⟨_, _, rfl, .inl h1, g.same R (.bl _)⟩
  · cases hb
theorem cb_all (hc : X.calm = true) : CallR X (.builtin "all") (rBi mg T "all") := by
  intro pins s σ H xs us Q I r h
  obtain ⟨m, st, ds, d, R, rv, hb, g⟩ := h
  simp only [bi] at hb
  rw [if_neg (by decide), if_pos (by decide)] at hb
  split at hb
  · obtain ⟨v, rfl, a⟩ := vs1 rv
    rw [Option.map_eq_some_iff] at hb
    obtain ⟨bs, e, rfl⟩ := hb
    cases a with
    | lst h1 n1 l1 t1 =>
      obtain rfl := t1.bools_of e
      exact cr_all hc pins s σ H _ us Q I r ⟨_, _, rfl, .inl h1, g.same R (.bl _)⟩
  · cases hb
theorem cb_tuple : CallR X (.type "tuple") (rBi mg T "tuple") := by
  intro pins s σ H xs us Q I r h
  obtain ⟨m, st, ds, d, R, rv, hb, g⟩ := h
  simp only [bi] at hb
  rw [if_neg (by decide), if_neg (by decide), if_neg (by decide), if_neg (by decide), if_pos (by decide)] at hb
  split at hb
  · obtain ⟨v, rfl, a⟩ := vs1 rv
    cases hb
    cases a with
    | lst h1 n1 l1 t1 => exact call_tuple_of pins s σ H _ us Q I r ⟨_, _, rfl, .inl ⟨.inl h1, fun l hl => g.tup R hl t1 l1⟩⟩
  · obtain ⟨v, rfl, a⟩ := vs1 rv
    cases hb
    cases a with
    | tup h1 n1 l1 t1 => exact call_tuple_of pins s σ H _ us Q I r ⟨_, _, rfl, .inr ⟨.inl h1, g.same R (.tup h1 n1 l1 t1)⟩⟩
  · cases hb
theorem chars_rv (z : Str) {mg : MG} {m : MA} {H : Hp} : RVs mg m H (z.cps.toList.map fun c => V.str ⟨#[c]⟩) (chars z) := by
  unfold chars
  generalize z.cps.toList = l
  induction l with
  | nil => exact .nil
  | cons c l ih => exact .cons (.str _) ih
theorem call_list_sgn (hc : X.calm = true) : CallR X (.type "list") (fun xs H Q => ∃ z : Str, xs = [.str z] ∧ z.length ≤ sizeLine ∧ ∀ p, H p = none → Q (.ref p) (upd H p (.lst (z.cps.toList.map fun c => V.str ⟨#[c]⟩)))) := by
  intro pins s σ H xs us Q I r h
  obtain ⟨z, rfl, hz, q⟩ := h
  obtain ⟨u, rfl, t, rfl⟩ := vals1 r
  refine call_list_str (I.ok.hd hc) z t (hn := hz) fun h' tk acc' c' hk hS' hacc => ?_
  have hv : ∀ (l : List Nat) (us : List Value), us.length = l.length → (∀ (i : Nat) (v : Value), us[i]? = some v → ∃ (c : Nat) (u : Tok), l[i]? = some c ∧ v = Value.str ⟨#[c]⟩ u) → Vals (l.map fun c => V.str ⟨#[c]⟩) us := by
    intro l
    induction l with
    | nil =>
      intro us h1 _
      rw [List.eq_nil_of_length_eq_zero h1]
      exact .nil
    | cons c l ih =>
      intro us h1 h2
      cases us with
      | nil => cases h1
      | cons u us =>
        obtain ⟨c', u', e1, e2⟩ := h2 0 u rfl
        cases e1
        exact .cons ⟨u', e2⟩ (ih us (Nat.succ.inj h1) fun i v hi => h2 (i + 1) v hi)
  have hvals : Vals (z.cps.toList.map fun c => V.str ⟨#[c]⟩) acc'.toList := hv _ _ (by rw [Array.length_toList, hacc.1]; rfl) fun i v hi => by
    obtain ⟨c, u, hc1, rfl⟩ := hacc.2 i v (by simpa using hi)
    exact ⟨c, u, by simpa using hc1, rfl⟩
  refine ⟨.ref s.heap.objs.size, _, I.laid (t' := tk) (o := .lst (z.cps.toList.map fun c => V.str ⟨#[c]⟩)) hk (Nat.le_refl _) ?_, rfl, q _ (I.hok.fresh (Nat.le_refl _))⟩
  exact ⟨by rw [List.length_map]; exact hz, acc'.toList, c', hvals, by simpa using hS'⟩
theorem cb_list (hc : X.calm = true) : CallR X (.type "list") (rBi mg T "list") := by
  intro pins s σ H xs us Q I r h
  obtain ⟨m, st, ds, d, R, rv, hb, g⟩ := h
  simp only [bi] at hb
  rw [if_neg (by decide), if_neg (by decide), if_neg (by decide), if_neg (by decide), if_neg (by decide), if_pos (by decide)] at hb
  split at hb
  · obtain ⟨v, rfl, a⟩ := vs1 rv
    cases hb
    cases a with
    | lst h1 n1 l1 t1 => exact call_list_of pins s σ H _ us Q I r ⟨_, _, rfl, .inl (.inl h1), fun l hl => g.lst R hl t1 l1⟩
  · obtain ⟨v, rfl, a⟩ := vs1 rv
    cases hb
    cases a with
    | tup h1 n1 l1 t1 => exact call_list_of pins s σ H _ us Q I r ⟨_, _, rfl, .inr (.inl h1), fun l hl => g.lst R hl t1 l1⟩
  · obtain ⟨v, rfl, a⟩ := vs1 rv
    split at hb
    · rename_i hl
      cases hb
      cases a
      exact call_list_sgn hc pins s σ H _ us Q I r ⟨_, rfl, by rw [← lim_eq]; exact hl, fun p hp => g.lst R hp (chars_rv _) (by rw [List.length_map]; exact hl)⟩
    · cases hb
  · cases hb
theorem CallR.or {f : Value} {r r' : List V → Hp → VK → Prop} (h : CallR X f r) (h' : CallR X f r') : CallR X f (fun xs H Q => r xs H Q ∨ r' xs H Q) := by
  intro pins s σ H xs us Q I r0 q
  rcases q with q | q
  · exact h pins s σ H xs us Q I r0 q
  · exact h' pins s σ H xs us Q I r0 q
theorem cb_int : CallR X (.type "int") (rBi mg T "int") := by
  intro pins s σ H xs us Q I r h
  obtain ⟨m, st, ds, d, R, rv, hb, g⟩ := h
  simp only [bi] at hb
  rw [if_neg (by decide), if_neg (by decide), if_neg (by decide), if_neg (by decide), if_neg (by decide), if_neg (by decide), if_pos (by decide)] at hb
  split at hb
  · obtain ⟨v, rfl, a⟩ := vs1 rv
    cases hb
    cases a
    exact call_int1 pins s σ H _ us Q I r (.inl ⟨_, rfl, g.same R (.int _)⟩)
  · obtain ⟨v, rfl, a⟩ := vs1 rv
    cases hb
    cases a
    exact call_int1 pins s σ H _ us Q I r (.inr ⟨_, rfl, g.same R (.int _)⟩)
  · obtain ⟨v, rfl, a⟩ := vs1 rv
    split at hb
    · rename_i n e
      split at hb
      · cases hb
        cases a
        exact call_int_str pins s σ H _ us Q I r ⟨_, _, rfl, e, by assumption, g.same R (.int _)⟩
      · cases hb
    · cases hb
  · cases hb
theorem cb_str : CallR X (.type "str") (rBi mg T "str") := by
  intro pins s σ H xs us Q I r h
  obtain ⟨m, st, ds, d, R, rv, hb, g⟩ := h
  simp only [bi] at hb
  rw [if_neg (by decide), if_neg (by decide), if_neg (by decide), if_neg (by decide), if_neg (by decide), if_neg (by decide), if_neg (by decide), if_pos (by decide)] at hb
  split at hb
  · obtain ⟨v, rfl, a⟩ := vs1 rv
    split at hb
    · cases hb
      cases a
      exact call_str_int pins s σ H _ us Q I r ⟨_, rfl, by assumption, g.same R (.str _)⟩
    · cases hb
  · cases hb
theorem rv_ty {K : PySem.W.Frag} {mg : MG} {m : MA} {H : Hp} {x : V} {d : D} {t : Str} {b : Bool} (r : RV mg m H x d) (h : isKind d t = some b) :
    ∃ tv, TyX K H x (.type tv) ∧ (tv, t, b) ∈ ([("NoneType", "int", false), ("NoneType", "bool", false), ("NoneType", "str", false), ("NoneType", "list", false), ("NoneType", "tuple", false),
      ("bool", "int", true), ("bool", "bool", true), ("bool", "str", false), ("bool", "list", false), ("bool", "tuple", false),
      ("int", "int", true), ("int", "bool", false), ("int", "str", false), ("int", "list", false), ("int", "tuple", false),
      ("str", "int", false), ("str", "bool", false), ("str", "str", true), ("str", "list", false), ("str", "tuple", false),
      ("list", "int", false), ("list", "bool", false), ("list", "str", false), ("list", "list", true), ("list", "tuple", false),
      ("tuple", "int", false), ("tuple", "bool", false), ("tuple", "str", false), ("tuple", "list", false), ("tuple", "tuple", true)] : List (String × Str × Bool)) := by
  have key : ∀ (k : Str) (tv : String), (if t = "int" then some (decide (k = "int") || decide (k = "bool"))
    else if t = "bool" then some (decide (k = "bool"))
    else if t = "str" then some (decide (k = "str"))
    else if t = "list" then some (decide (k = "list"))
    else if t = "tuple" then some (decide (k = "tuple"))
    else none) = some b → (t = "int" ∧ b = (decide (k = "int") || decide (k = "bool"))) ∨ (t = "bool" ∧ b = decide (k = "bool")) ∨ (t = "str" ∧ b = decide (k = "str")) ∨ (t = "list" ∧ b = decide (k = "list")) ∨ (t = "tuple" ∧ b = decide (k = "tuple")) := by
    intro k tv q
    split at q
    · exact .inl ⟨by assumption, (Option.some.inj q).symm⟩
    · split at q
      · exact .inr (.inl ⟨by assumption, (Option.some.inj q).symm⟩)
      · split at q
        · exact .inr (.inr (.inl ⟨by assumption, (Option.some.inj q).symm⟩))
        · split at q
          · exact .inr (.inr (.inr (.inl ⟨by assumption, (Option.some.inj q).symm⟩)))
          · split at q
            · exact .inr (.inr (.inr (.inr ⟨by assumption, (Option.some.inj q).symm⟩)))
            · cases q
  cases r with
  | non => exact ⟨"NoneType", .base .non, by rcases key "NoneType" "" h with ⟨rfl, rfl⟩ | ⟨rfl, rfl⟩ | ⟨rfl, rfl⟩ | ⟨rfl, rfl⟩ | ⟨rfl, rfl⟩ <;> decide⟩
  | bl b => exact ⟨"bool", .base (.bl b), by rcases key "bool" "" h with ⟨rfl, rfl⟩ | ⟨rfl, rfl⟩ | ⟨rfl, rfl⟩ | ⟨rfl, rfl⟩ | ⟨rfl, rfl⟩ <;> decide⟩
  | int b => exact ⟨"int", .base (.int b), by rcases key "int" "" h with ⟨rfl, rfl⟩ | ⟨rfl, rfl⟩ | ⟨rfl, rfl⟩ | ⟨rfl, rfl⟩ | ⟨rfl, rfl⟩ <;> decide⟩
  | str b => exact ⟨"str", .base (.str b), by rcases key "str" "" h with ⟨rfl, rfl⟩ | ⟨rfl, rfl⟩ | ⟨rfl, rfl⟩ | ⟨rfl, rfl⟩ | ⟨rfl, rfl⟩ <;> decide⟩
  | lst h1 _ _ _ =>
    refine ⟨"list", ?_, by rcases key "list" "" h with ⟨rfl, rfl⟩ | ⟨rfl, rfl⟩ | ⟨rfl, rfl⟩ | ⟨rfl, rfl⟩ | ⟨rfl, rfl⟩ <;> decide⟩
    rcases h1 with h1 | ⟨o, h1⟩
    · exact .base (.lst h1)
    · exact .base (.frz h1)
  | tup h1 _ _ _ =>
    refine ⟨"tuple", ?_, by rcases key "tuple" "" h with ⟨rfl, rfl⟩ | ⟨rfl, rfl⟩ | ⟨rfl, rfl⟩ | ⟨rfl, rfl⟩ | ⟨rfl, rfl⟩ <;> decide⟩
    rcases h1 with h1 | ⟨o, h1⟩
    · exact .base (.tup h1)
    · exact .fTuple h1
  | obj _ _ => simp [isKind] at h
  | gl _ => simp [isKind] at h
  | ex _ _ _ _ _ => simp [isKind] at h
  | et _ _ _ _ _ => simp [isKind] at h
/-- isinstance(x, t): t the built-in type's name as the model writes it -/
def rKind (mg : MG) (T : List (Addr × Str)) (t : Str) (tn : String) : List V → Hp → VK → Prop := fun vs H Q => ∃ m st x dx b, vs = [x, .ty tn] ∧ RS mg T m st H ∧ RV mg m H x dx ∧ isKind dx t = some b ∧ Q (.bl b) H
theorem cb_isi {t : Str} {tn : String} (ht : (t, tn) ∈ ([("int", "int"), ("bool", "bool"), ("str", "str"), ("list", "list"), ("tuple", "tuple")] : List (Str × String))) : CallR X (.builtin "isinstance") (rKind mg T t tn) := by
  intro pins s σ H xs us Q I r h
  obtain ⟨m, st, x, dx, b, rfl, R, rv, hb, q⟩ := h
  obtain ⟨tv, ty, hm⟩ := rv_ty (K := X.K) rv hb
  refine call_isi pins s σ H _ us Q I r ⟨x, .ty tn, .type tv, .type tn, b, rfl, .ty tn, ty, ?_, q⟩
  have hall : ∀ p ∈ ([("NoneType", "int", false), ("NoneType", "bool", false), ("NoneType", "str", false), ("NoneType", "list", false), ("NoneType", "tuple", false),
      ("bool", "int", true), ("bool", "bool", true), ("bool", "str", false), ("bool", "list", false), ("bool", "tuple", false),
      ("int", "int", true), ("int", "bool", false), ("int", "str", false), ("int", "list", false), ("int", "tuple", false),
      ("str", "int", false), ("str", "bool", false), ("str", "str", true), ("str", "list", false), ("str", "tuple", false),
      ("list", "int", false), ("list", "bool", false), ("list", "str", false), ("list", "list", true), ("list", "tuple", false),
      ("tuple", "int", false), ("tuple", "bool", false), ("tuple", "str", false), ("tuple", "list", false), ("tuple", "tuple", true)] : List (String × Str × Bool)), ∀ q ∈ ([("int", "int"), ("bool", "bool"), ("str", "str"), ("list", "list"), ("tuple", "tuple")] : List (Str × String)), q.1 = p.2.1 →
      PySem.W.kitOne X.K (.type p.1) (.type q.2) = some p.2.2 := by
    intro p hp q hq e
    rw [show PySem.W.kitOne X.K (.type p.1) (.type q.2) = PySem.W.kitOne [] (.type p.1) (.type q.2) from rfl]
    revert e
    revert q
    revert p
    decide +kernel
  exact hall _ hm _ ht rfl

def rMt (mg : MG) (T : List (Addr × Str)) (f : Str) : V → List V → Hp → VK → Prop := fun x vs H Q => ∃ m st dx ds d, RS mg T m st H ∧ RV mg m H x dx ∧ RVs mg m H vs ds ∧ meth f (cntS f dx st) ds = some d ∧ Giv mg T m st H d Q
theorem cntS_ne {m : Str} {x : D} {st : Sto} (h : m ≠ "count") : cntS m x st = x := if_neg h
theorem sq_strs {K : PySem.W.Frag} {mg : MG} {m : MA} {H : Hp} {v : V} {xs : List D} {ys : List Str} (r : RV mg m H v (.list xs)) (e : dStrs xs = some ys) : ∃ p, v = .ref p ∧ SqL K H p (ys.map V.str) := by
  cases r with
  | lst h1 n1 l1 t1 =>
    obtain rfl := t1.strs_of e
    exact ⟨_, rfl, .inl h1⟩
theorem mb_split : MtR X "str.split" (rMt mg T "split") := by
  intro pins s σ H x xs v us Q I rx rs h
  obtain ⟨m, st, dx, ds, d, R, hx, rv, hb, g⟩ := h
  rw [cntS_ne (by decide)] at hb
  simp only [meth] at hb
  rw [if_pos (by decide)] at hb
  split at hb
  · obtain ⟨w, rfl, a⟩ := vs1 rv
    split at hb
    · rename_i hs
      cases hb
      cases a
      cases hx
      simp only [Bool.and_eq_true, decide_eq_true_eq] at hs
      have sl : LIM = sizeLine := lim_eq
      refine mt_split pins s σ H _ _ v us Q I rx rs ⟨_, _, rfl, rfl, by simpa using hs.1.1, by omega, fun p hp => g.lst R hp (.of_strs _) (by rw [List.length_map]; exact hs.2)⟩
    · cases hb
  · cases hb
theorem mb_join : MtR X "str.join" (rMt mg T "join") := by
  intro pins s σ H x xs v us Q I rx rs h
  obtain ⟨m, st, dx, ds, d, R, hx, rv, hb, g⟩ := h
  rw [cntS_ne (by decide)] at hb
  simp only [meth] at hb
  rw [if_neg (by decide), if_pos (by decide)] at hb
  split at hb
  · obtain ⟨w, rfl, a⟩ := vs1 rv
    split at hb
    · rename_i ys e
      split at hb
      · rename_i hs
        cases hb
        cases hx
        obtain ⟨p, rfl, hq⟩ := sq_strs (K := X.K) a e
        exact mt_join pins s σ H _ _ v us Q I rx rs ⟨_, p, ys, rfl, rfl, .inl hq, hs, g.same R (.str _)⟩
      · cases hb
    · cases hb
  · cases hb
theorem cnt_list {mg : MG} {T : List (Addr × Str)} {m : MA} {st : Sto} {H : Hp} {x : V} {dx : D} {ys : List D} (R : RS mg T m st H) (hx : RV mg m H x dx) (h : cntS "count" dx st = .list ys) : ∃ p vs, x = .ref p ∧ Rd H p (.lst vs) ∧ RVs mg m H vs ys := by
  unfold cntS at h
  rw [if_pos rfl] at h
  unfold lookS at h
  split at h
  · rename_i n _
    split at h
    · rename_i xs e
      split at h
      · cases h
        obtain ⟨a, vs, rfl, h1, h2, h3, h4, h5⟩ := hx.at_obj R e
        exact ⟨a, vs, rfl, .inl h2, h4⟩
      · cases h
    · cases h
  · contradiction
  · subst h
    cases hx with
    | lst h1 n1 l1 t1 => exact ⟨_, _, rfl, h1, t1⟩
theorem mb_count : MtR X "list.count" (rMt mg T "count") := by
  intro pins s σ H x xs v us Q I rx rs h
  obtain ⟨m, st, dx, ds, d, R, hx, rv, hb, g⟩ := h
  simp only [meth] at hb
  rw [if_neg (by decide), if_neg (by decide), if_pos (by decide)] at hb
  split at hb
  · rename_i ys _ ec
    obtain ⟨w, rfl, a⟩ := vs1 rv
    rw [Option.map_eq_some_iff] at hb
    obtain ⟨is, e, rfl⟩ := hb
    cases a
    obtain ⟨p, vs, rfl, h1, t1⟩ := cnt_list R hx ec
    obtain rfl := t1.ints_of e
    exact mt_lcount pins s σ H _ _ v us Q I rx rs ⟨_, is, _, rfl, rfl, .inl h1, g.same R (.int _)⟩
  · cases hb
def rApp (mg : MG) (T : List (Addr × Str)) : V → List V → Hp → VK → Prop := fun x vs H Q => ∃ m st dx dv st', vs.length = 1 ∧ RS mg T m st H ∧ RV mg m H x dx ∧ RVs mg m H vs [dv] ∧ appItem dx dv st = some st' ∧ ∀ H', RS mg T m st' H' → Ext m H m H' → Q .non H'
theorem mb_append : MtM X "list.append" (rApp mg T) := by
  intro pins s σ H x xs v us Q I rx rs h
  obtain ⟨m, st, dx, dv, st', _, R, hx, rv, hb, g⟩ := h
  obtain ⟨w, rfl, a⟩ := vs1 rv
  unfold appItem at hb
  split at hb
  · split at hb
    · rename_i n ys e
      split at hb
      · rename_i hc
        cases hb
        simp only [Bool.and_eq_true, decide_eq_true_eq] at hc
        obtain ⟨p, vs, rfl, h1, h2, h3, h4, h5⟩ := hx.at_obj R e
        have sl : LIM = sizeLine := lim_eq
        have hl := h4.length
        obtain ⟨w1, w2⟩ := R.write (vs' := vs ++ [w]) (xs' := ys ++ [dv]) h1 h2 (h4.append (.cons a .nil)) (by rw [List.length_append, List.length_singleton]; omega) (norefs_append hc.1.2 h5)
        exact mt_append pins s σ H _ _ v us Q I rx rs ⟨p, vs, w, rfl, rfl, h2, by omega, g _ w1 w2⟩
      · cases hb
    · cases hb
  · cases hb
end
end MP
set_option Elab.async false
set_option linter.all false
set_option maxRecDepth 100000
namespace MP
open PySem PySem.Spec PyProof.Rows L2 LamX
section
variable {X : Cx} {mg : MG} {T : List (Addr × Str)}
theorem vals_at : ∀ {vs : List V} {us : List Value} {i : Nat} {u : Value}, Vals vs us → us[i]? = some u → ∃ v, vs[i]? = some v ∧ RelV v u
  | _, _, _, _, .nil, h => by simp at h
  | _, _, 0, _, .cons a _, h => by
    simp only [List.getElem?_cons_zero, Option.some.injEq] at h
    subst h
    exact ⟨_, rfl, a⟩
  | _, _, i + 1, _, .cons _ t, h => by
    obtain ⟨v, h1, h2⟩ := vals_at (i := i) t (by simpa using h)
    exact ⟨v, by simpa using h1, h2⟩
theorem alikeAll_of {xs : List D} (h : ordOk xs = true) : PySem.W.AlikeAll xs ∧ PyData.depthAll xs ≤ 40 ∧ PyData.canLayAll0 xs = true := by
  unfold ordOk alikes deepOk at h
  simp only [Bool.and_eq_true, List.all_eq_true, decide_eq_true_eq, Bool.not_eq_true'] at h
  obtain ⟨⟨⟨h1, h2⟩, h3⟩, h4⟩ := h
  exact ⟨⟨h1, fun x hx e => by have := h4 x hx; rw [e] at this; exact absurd this (by decide)⟩, h2, h3⟩
/-- the one of some data that a walk over them picks -/
theorem picked {pins : List (Addr × Obj)} {σ : L2.St} {H : Hp} {s : Shared} {m : MA} {st : Sto} {vs : List V} {its : List Value} {ds : List D} {d : D} {Q : VK} (I : Inv X pins σ H s) (R : RS mg T m st H) (g : Giv mg T m st H d Q) (rv : Vals vs its) (t : RVs mg m H vs ds) (hc : PyData.canLayAll0 ds = true) {i : Nat} {u : Value} {h' : Heap} {tk : Nat} {bs : List Addr} (hu : its[i]? = some u) (rd : Reads h' u d bs) (hk : ∀ b o, s.heap.get? b = some o → h'.get? b = some o) :
    EP X pins σ Q u { s with heap := h', toks := tk } := by
  obtain ⟨v, hv, rel⟩ := vals_at rv hu
  obtain ⟨e, he, r⟩ := t.getV hv
  have hce : e.canLay0 = true := by
    have hm : e ∈ ds := List.mem_of_getElem? he
    clear he hv r rel hu rd t
    induction ds with
    | nil => cases hm
    | cons d ds ih =>
      simp only [PyData.canLayAll0, Bool.and_eq_true] at hc
      rcases List.mem_cons.mp hm with rfl | hm
      · exact hc.1
      · exact ih hc.2 hm
  obtain ⟨as, r1⟩ := Dp.reads I e v u (r.dp hce) rel
  have e2 : e = d := PySem.SeqAt.Reads.unique e d u _ _ hce (PySem.W.reads_keeps hk r1) rd
  subst e2
  exact ⟨v, H, I.kept hk, rel, g.same R r⟩
theorem cb_min (hc : X.calm = true) (hu : X.A.units + 64 < cLine) : CallR X (.builtin "min") (rBi mg T "min") := by
  intro pins s σ H xs us Q I r h
  obtain ⟨m, st, ds, d, R, rv, hb, g⟩ := h
  simp only [bi] at hb
  rw [if_neg (by decide), if_neg (by decide), if_neg (by decide), if_neg (by decide), if_neg (by decide), if_neg (by decide), if_neg (by decide), if_neg (by decide), if_pos (by decide)] at hb
  split at hb
  · obtain ⟨v, w, rfl, a, b⟩ := vs2 rv
    cases a; cases b; cases hb
    exact call_min2 hc pins s σ H _ us Q I r ⟨_, _, rfl, g.same R (.int _)⟩
  · obtain ⟨v, rfl, a⟩ := vs1 rv
    split at hb
    · rename_i ho
      cases hb
      obtain ⟨h1, h2, h3⟩ := alikeAll_of ho
      cases a with
      | lst q1 n1 l1 t1 =>
        obtain ⟨its, rvs, hl, _⟩ := I.list (.inl q1)
        rw [Vals.ref1 r]
        obtain ⟨as, hr⟩ := Dp.readsAll I _ _ _ (t1.dp h3) rvs
        refine PySem.W.min_list_data (I.ok.hd hc) hl.isList (by simpa using hr) h1 (by omega) fun i u h' tk bs hi rd hk => picked I R g rvs t1 h3 (by simpa using hi) rd hk
    · cases hb
  · obtain ⟨v, rfl, a⟩ := vs1 rv
    split at hb
    · rename_i ho
      cases hb
      obtain ⟨h1, h2, h3⟩ := alikeAll_of ho
      cases a with
      | tup q1 n1 l1 t1 =>
        obtain ⟨its, rvs, hl, _⟩ := I.tuple (.inl q1)
        rw [Vals.ref1 r]
        obtain ⟨as, hr⟩ := Dp.readsAll I _ _ _ (t1.dp h3) rvs
        refine PySem.W.min_tuple_data (I.ok.hd hc) hl (by simpa using hr) h1 (by omega) fun i u h' tk bs hi rd hk => picked I R g rvs t1 h3 (by simpa using hi) rd hk
    · cases hb
  · cases hb
theorem cb_max (hc : X.calm = true) (hu : X.A.units + 64 < cLine) : CallR X (.builtin "max") (rBi mg T "max") := by
  intro pins s σ H xs us Q I r h
  obtain ⟨m, st, ds, d, R, rv, hb, g⟩ := h
  simp only [bi] at hb
  rw [if_neg (by decide), if_neg (by decide), if_neg (by decide), if_neg (by decide), if_neg (by decide), if_neg (by decide), if_neg (by decide), if_neg (by decide), if_neg (by decide), if_pos (by decide)] at hb
  split at hb
  · obtain ⟨v, w, rfl, a, b⟩ := vs2 rv
    cases a; cases b; cases hb
    exact call_max2 hc pins s σ H _ us Q I r ⟨_, _, rfl, g.same R (.int _)⟩
  · obtain ⟨v, rfl, a⟩ := vs1 rv
    split at hb
    · rename_i ho
      cases hb
      obtain ⟨h1, h2, h3⟩ := alikeAll_of ho
      cases a with
      | lst q1 n1 l1 t1 =>
        obtain ⟨its, rvs, hl, _⟩ := I.list (.inl q1)
        rw [Vals.ref1 r]
        obtain ⟨as, hr⟩ := Dp.readsAll I _ _ _ (t1.dp h3) rvs
        refine PySem.W.max_list_data (I.ok.hd hc) hl.isList (by simpa using hr) h1 (by omega) fun i u h' tk bs hi rd hk => picked I R g rvs t1 h3 (by simpa using hi) rd hk
    · cases hb
  · obtain ⟨v, rfl, a⟩ := vs1 rv
    split at hb
    · rename_i ho
      cases hb
      obtain ⟨h1, h2, h3⟩ := alikeAll_of ho
      cases a with
      | tup q1 n1 l1 t1 =>
        obtain ⟨its, rvs, hl, _⟩ := I.tuple (.inl q1)
        rw [Vals.ref1 r]
        obtain ⟨as, hr⟩ := Dp.readsAll I _ _ _ (t1.dp h3) rvs
        refine PySem.W.max_tuple_data (I.ok.hd hc) hl (by simpa using hr) h1 (by omega) fun i u h' tk bs hi rd hk => picked I R g rvs t1 h3 (by simpa using hi) rd hk
    · cases hb
  · cases hb
theorem sum_rawT {prog : Program} {w : World} {A : Around} {E : Value → Shared → Prop} {s : Shared} {l : Addr} {its : List Value} {ns : List Int} {Q : Value → Shared → Prop} (hh : A.handled = none) (hl : s.heap.IsTuple l its.toArray) (hi : IntsAre its ns)
    (h : ∀ h' tk t', (∀ b o, s.heap.get? b = some o → h'.get? b = some o) → Q (.int ns.sum t') { s with heap := h', toks := tk }) : wpAny (model prog w) A (call (.builtin "sum") [.ref l]) Q E s := by
  obtain ⟨xs, e⟩ := hi.allInts.items
  have hn : numsOf (intItems xs).toList = ns := by rw [← e]; exact hi.numsOf
  rw [nums_intItems] at hn
  rw [e] at hl
  refine PySem.W.ktm_sumG hh hl fun h' tk t' hk => ?_
  have := h h' tk t' hk
  rw [preSum_eq, List.take_of_length_le (by simp), hn]; exact this
theorem cb_sum (hc : X.calm = true) : CallR X (.builtin "sum") (rBi mg T "sum") := by
  intro pins s σ H xs us Q I r h
  obtain ⟨m, st, ds, d, R, rv, hb, g⟩ := h
  simp only [bi] at hb
  rw [if_neg (by decide), if_neg (by decide), if_neg (by decide), if_pos (by decide)] at hb
  split at hb
  · obtain ⟨v, rfl, a⟩ := vs1 rv
    rw [Option.map_eq_some_iff] at hb
    obtain ⟨bs, e, rfl⟩ := hb
    cases a with
    | lst h1 n1 l1 t1 =>
      obtain rfl := t1.ints_of e
      exact cr_sum hc pins s σ H _ us Q I r ⟨_, _, rfl, .inl h1, g.same R (.int _)⟩
  · obtain ⟨v, rfl, a⟩ := vs1 rv
    rw [Option.map_eq_some_iff] at hb
    obtain ⟨bs, e, rfl⟩ := hb
    cases a with
    | tup h1 n1 l1 t1 =>
      obtain rfl := t1.ints_of e
      obtain ⟨its, rvs, hl, _⟩ := I.tuple (.inl h1)
      rw [Vals.ref1 r]
      exact sum_rawT (I.ok.hd hc) hl rvs.ints fun h' tk t' hk => ⟨.int _, H, I.kept hk, ⟨_, rfl⟩, g.same R (.int _)⟩
  · cases hb
end
end MP
set_option Elab.async false
set_option linter.all false
set_option maxRecDepth 100000
set_option maxHeartbeats 1000000
namespace MP
open PySem PySem.Spec PyProof.Rows L2 LamX HT
section
variable {prog : Program} {w : World} {A : Around} {E : Value → Shared → Prop} {s : Shared}
theorem adjust_rev (n : Nat) : Builtin.Slice.sliceAdjust none none (-1) (n : Int) = ((n : Int) - 1, -1) := rfl
theorem places_rev (n : Nat) : Builtin.Slice.slicePlaces ((n : Int) - 1) (-1) (-1) = n := by
  unfold Builtin.Slice.slicePlaces
  rw [if_neg (by decide)]
  split
  · have : ((n : Int) - 1 - -1 - 1) / - -1 + 1 = n := by
      rw [Int.neg_neg, Int.ediv_one]
      omega
    omega
  · omega
theorem sliceApplied_rev {sl : Addr} {vs : Value} {n : Nat} {Q : Int × Int × Nat → Shared → Prop} (hs : s.heap.IsSliceOf sl .none .none vs) (ps : IsPart vs (some (-1)))
    (h : Q ((n : Int) - 1, -1, n) s) : wpAny (model prog w) A (Builtin.Slice.sliceApplied (.ref sl) (pure (n : Int))) Q E s := by
  obtain ⟨os, hos, hcs, hds⟩ := id hs
  unfold Builtin.Slice.sliceApplied Builtin.Slice.sliceFields
  refine wpAny_bind (wpAny_bind (wpAny_field hos hds (x := .none) rfl (wpAny_bind (wpAny_field hos hds (x := .none) rfl (wpAny_bind (wpAny_field hos hds (x := vs) rfl (wpAny_pure ?_)))))))
  refine wpAny_bind (slicePart_ ps ?_)
  show wpAny _ _ (if ((-1 : Int) == 0) = true then _ else _) _ _ s
  rw [if_neg (by decide)]
  refine wpAny_bind (slicePart_none (wpAny_bind (slicePart_none (wpAny_bind (wpAny_pure ?_)))))
  show wpAny _ _ (match Builtin.Slice.sliceAdjust none none (-1) (n : Int) with | (lo, hi) => pure (lo, (-1 : Int), Builtin.Slice.slicePlaces lo hi (-1))) _ _ s
  rw [adjust_rev n]
  show wpAny _ _ (pure ((n : Int) - 1, (-1 : Int), Builtin.Slice.slicePlaces ((n : Int) - 1) (-1) (-1))) _ _ s
  rw [places_rev]
  exact wpAny_pure h
theorem pick_rev (xs : Array Value) : ((List.range xs.size).filterMap fun (m : Nat) => xs[((xs.size : Int) - 1 + (m : Int) * -1).toNat]?).toArray = xs.toList.reverse.toArray := by
  congr 1
  have e : ∀ k, k ≤ xs.size → (List.range k).filterMap (fun (m : Nat) => xs[((xs.size : Int) - 1 + (m : Int) * -1).toNat]?) = xs.toList.reverse.take k := by
    intro k
    induction k with
    | zero => intro _; rfl
    | succ k ih =>
      intro hk
      rw [List.range_succ, List.filterMap_append, ih (by omega)]
      have h1 : ((xs.size : Int) - 1 + (k : Int) * -1).toNat = xs.size - 1 - k := by omega
      have h2 : xs[xs.size - 1 - k]? = some xs[xs.size - 1 - k] := Array.getElem?_eq_getElem (by omega)
      have h3 : xs.toList.reverse[k]? = some xs[xs.size - 1 - k] := by
        rw [List.getElem?_reverse (by rw [Array.length_toList]; omega), Array.length_toList, Array.getElem?_toList, h2]
      rw [List.take_succ, h3]
      simp only [List.filterMap_cons, List.filterMap_nil, h1, h2]
      rfl
  rw [e _ (Nat.le_refl _)]
  exact List.take_of_length_le (by rw [List.length_reverse, Array.length_toList]; exact Nat.le_refl _)
theorem getItem_tuple_rev {t sl : Addr} {items : Array Value} {vs : Value} {Q : Value → Shared → Prop} (ht : IsTup s.heap t items) (hs : s.heap.IsSliceOf sl .none .none vs) (ps : IsPart vs (some (-1)))
    (h : Q (.ref s.heap.objs.size) { s with heap := s.heap.push { cls := .type "tuple", data := .seq items.toList.reverse.toArray } })
    (hsz : items.size ≤ sizeLine) : wpAny (model prog w) A (getItem (.ref t) (.ref sl)) Q E s := by
  have htake : sizeOk (.seq items.toList.reverse.toArray) := by
    show items.toList.reverse.toArray.size ≤ sizeLine
    rw [List.size_toArray, List.length_reverse, Array.length_toList]
    exact hsz
  obtain ⟨os, hos, hcs, hds⟩ := id hs
  have hTs : s.TypeIs (.ref sl) "slice" := ⟨os, hos, hcs⟩
  unfold getItem
  try with_reducible refine wpAny_holding ?_
  first | refine wpAny_bind (wpAny_pure ?_) | skip
  refine wpAny_bind (wpAny_sequenceKey ht.typeIs (by decide) ?_)
  refine wpAny_bind (wpAny_callSpecial?_slot (name := Str.ofString "__getitem__") ht.typeIs PyProof.Rows.slot_tuple_getitem
    (wpAny_call_entry PyProof.Rows.slot_tuple_getitem ht.typeIs entry_tuple_getitem ?_ (args_tuple_getitem _ _)))
  show wpAny _ _ (Builtin.Tuple.tupleItemsOf (.ref t) >>= _) _ _ s
  refine wpAny_bind (tupleItemsOf_ ht ?_)
  refine wpAny_bind (wpAny_typeOf hTs ?_)
  rw [if_pos (by decide)]
  refine wpAny_bind (sliceApplied_rev hs ps ?_)
  have hno : ¬ ((((items.size : Int) - 1) == 0 && (-1 : Int) == 1 && items.size == items.size) = true) := by
    intro q
    rw [Bool.and_eq_true, Bool.and_eq_true] at q
    exact absurd q.1.2 (by decide)
  show wpAny _ _ (if (((items.size : Int) - 1) == 0 && (-1 : Int) == 1 && items.size == items.size) = true then _ else _) _ _ s
  rw [if_neg hno, pick_rev]
  first
    | exact wpAny_bind (m := Builtin.Tuple.tupleExact _) (wpAny_newObj_type (wpAny_pure ⟨_, rfl, wpAny_pure h⟩) htake)
    | exact wpAny_bind (m := Builtin.Tuple.tupleExact _) (wpAny_newObj_type (wpAny_bind (wpAny_pure (wpAny_pure ⟨_, rfl, wpAny_pure h⟩))) htake)
    | exact wpAny_bind (wpAny_bind (m := Builtin.Tuple.tupleExact _) (wpAny_newObj_type (wpAny_pure (wpAny_pure ⟨_, rfl, wpAny_pure h⟩)) htake))
    | exact wpAny_bind (wpAny_bind (m := Builtin.Tuple.tupleExact _) (wpAny_newObj_type (wpAny_pure ⟨_, rfl, wpAny_pure h⟩) htake))
end
def tRevB (K : PySem.W.Frag) (te : TE) : TE := fun σ H Q => te σ H fun x H1 => (∃ a xs, x = .ref a ∧ SqL K H1 a xs ∧ ∀ p, H1 p = none → Q (.ref p) (upd H1 p (.lst xs.reverse))) ∨ (∃ a xs, x = .ref a ∧ SqT K H1 a xs ∧ ∀ p, H1 p = none → Q (.ref p) (upd H1 p (.tup xs.reverse)))
theorem pe_revB {X : Cx} {e : Expr} {te : TE} {k : Nat} {p1 p2 p3 pos : Pos} (he : PE X e te) : PE X (.Subscript e (.Slice none none (some (.UnaryOp .USub (.Constant (.int 1) k p1) p2)) p3) pos) (tRevB X.K te) := by
  refine ⟨fun pins s σ H Q I h => ?_⟩
  refine Subscript_ (thn (he.run pins s σ H _ I h) fun v s1 ⟨x, H1, I1, r1, q1⟩ => ?_)
  have hst : PO X (some (.UnaryOp .USub (.Constant (.int 1) k p1) p2)) (tPart (tUn (rU fun i => .int (-i)) (tC (.int 1)))) := po_some (pe_un un_neg pe_int)
  refine wpAny_Slice (thn (po_none.run pins s1 σ H1 (fun o H2 => o = none ∧ H2 = H1) I1 ⟨rfl, rfl⟩) fun vl s2 ⟨l, H2, I2, pl, el, e2⟩ => ?_)
  subst el e2
  refine thn (po_none.run pins s2 σ H2 (fun o H3 => o = none ∧ H3 = H2) I2 ⟨rfl, rfl⟩) fun vu s3 ⟨u, H3, I3, pu, eu, e3⟩ => ?_
  subst eu e3
  refine thn (hst.run pins s3 σ H3 (fun o H4 => o = some (-1) ∧ H4 = H3) I3 ⟨1, rfl, -1, rfl, rfl, rfl⟩) fun vs s4 ⟨o, H4, I4, ps, eo, e4⟩ => ?_
  subst eo e4
  have I5 : Inv X pins σ H4 { s4 with heap := s4.heap.push { cls := .type "slice", data := .fields #[vl, vu, vs] } } := I4.kept (t' := s4.toks) fun b ob q => Heap.get?_push_of_some _ q
  rcases q1 with ⟨a, xs, ex, hx, q⟩ | ⟨a, xs, ex, hx, q⟩
  · subst ex
    cases r1
    obtain ⟨its, r, ht, hz⟩ := I5.list hx
    have hlen := r.length
    show wpAny (model X.prog X.w) X.A (subscriptTail e (.Slice none none (some (.UnaryOp .USub (.Constant (.int 1) k p1) p2)) p3) (.ref a) (.ref s4.heap.objs.size)) (EP X pins σ Q) X.xe { s4 with heap := s4.heap.push { cls := .type "slice", data := .fields #[vl, vu, vs] } }
    refine tail_any (ops := [.ref a, .ref s4.heap.objs.size]) ht.isList.typeIs (PySem.slot_list_getitem.lookup) ?_ (by with_unfolding_all rfl)
    refine wpAny_getItem_list_slice ht.isList (Heap.IsSliceOf.new _ vl vu vs) pl pu ps (by decide) ?_ (by rw [List.size_toArray]; omega)
    rw [PySem.W.krv_pick]
    refine ⟨.ref _, _, I5.laid (t' := s4.toks) (o := .lst xs.reverse) (fun b ob q => Heap.get?_push_of_some _ q) (Nat.le_refl _) ?_, rfl, q _ (I5.hok.fresh (Nat.le_refl _))⟩
    exact ⟨by rw [List.length_reverse]; exact hz, _, 0, r.reverse, Heap.get?_push_size _ rfl⟩
  · subst ex
    cases r1
    obtain ⟨its, r, ht, hz⟩ := I5.tuple hx
    have hlen := r.length
    cases pl
    cases pu
    show wpAny (model X.prog X.w) X.A (subscriptTail e (.Slice none none (some (.UnaryOp .USub (.Constant (.int 1) k p1) p2)) p3) (.ref a) (.ref s4.heap.objs.size)) (EP X pins σ Q) X.xe { s4 with heap := s4.heap.push { cls := .type "slice", data := .fields #[.none, .none, vs] } }
    refine tail_any (ops := [.ref a, .ref s4.heap.objs.size]) ht.typeIs (PyProof.Rows.slot_tuple_getitem.lookup) ?_ (by with_unfolding_all rfl)
    refine getItem_tuple_rev ht (Heap.IsSliceOf.new _ .none .none vs) ps ?_ (by rw [List.size_toArray]; omega)
    refine ⟨.ref _, _, I5.laid (t' := s4.toks) (o := .tup xs.reverse) (fun b ob q => Heap.get?_push_of_some _ q) (Nat.le_refl _) ?_, rfl, q _ (I5.hok.fresh (Nat.le_refl _))⟩
    exact ⟨by rw [List.length_reverse]; exact hz, _, r.reverse, IsTup.new _ _⟩
end MP
set_option Elab.async false
set_option linter.all false
set_option maxRecDepth 100000
namespace MP
open PySem PySem.Spec PyProof.Rows L2 LamX

/-- a result that goes on well -/
def Wok (mg : MG) (T : List (Addr × Str)) {α : Type} (m : MA) (H : Hp) (r : Res α) (κ : α → MA → Sto → Hp → Prop) (ε : XK) : Prop := match r with
  | .ok a st' => ∀ m' H', RS mg T m' st' H' → Ext m H m' H' → κ a m' st' H'
  | .exc c st' => ∀ m' H' x od, (c = "TooMany" ∨ od = none) → RS mg T m' st' H' → Ext m H m' H' → mg c = some (.ref x) → ε (.ref x) od H'
  | .bad => False
section
variable {mg : MG} {T : List (Addr × Str)} {α β : Type} {m m' : MA} {H H' : Hp} {st : Sto} {κ κ' : α → MA → Sto → Hp → Prop} {κb : β → MA → Sto → Hp → Prop} {ε : XK}
theorem Wok.now {a : α} (w : Wok mg T m H (.ok a st) κ ε) (R : RS mg T m st H) : κ a m st H := w m H R (Ext.refl m H)
theorem Wok.imp {r : Res α} (w : Wok mg T m H r κ ε) (h : ∀ a m' st' H', RS mg T m' st' H' → Ext m H m' H' → κ a m' st' H' → κ' a m' st' H') : Wok mg T m H r κ' ε := by
  cases r with
  | ok a s => exact fun m' H' R E => h a m' s H' R E (w m' H' R E)
  | exc c s => exact w
  | bad => exact w
theorem Wok.later {r : Res α} (w : Wok mg T m H r κ ε) (e : Ext m H m' H') : Wok mg T m' H' r κ ε := by
  cases r with
  | ok a s => exact fun m2 H2 R E => w m2 H2 R (e.trans E)
  | exc c s => exact fun m2 H2 x od o R E => w m2 H2 x od o R (e.trans E)
  | bad => exact w
theorem Wok.bind {r : Res β} {f : β → Sto → Res α} (w : Wok mg T m H (r.bind f) κ ε) : Wok mg T m H r (fun b m' st' H' => Wok mg T m' H' (f b st') κ ε) ε := by
  cases r with
  | ok a s => exact fun m' H' R E => Wok.later w E
  | exc c s => exact w
  | bad => exact w
theorem Wok.lift {o : Option α} (w : Wok mg T m H (Res.lift o st) κ ε) : ∃ a, o = some a ∧ Wok mg T m H (.ok a st) κ ε := by
  cases o with
  | some a => exact ⟨a, rfl, w⟩
  | none => exact w.elim
end
abbrev KV (mg : MG) (Q : VK) : D → MA → Sto → Hp → Prop := fun d m' _ H' => ∀ v, RV mg m' H' v d → Q v H'
def tX (mg : MG) (T : List (Addr × Str)) (E : XK) (r : Rho → Sto → Res D) : TE := fun σ H Q => ∃ m ρ st, Rel mg T m ρ st σ H ∧ Wok mg T m H (r ρ st) (KV mg Q) E
def tT (mg : MG) (T : List (Addr × Str)) (E : XK) (r : Rho → Sto → Res Bool) : TT := fun σ H Q => ∃ m ρ st, Rel mg T m ρ st σ H ∧ Wok mg T m H (r ρ st) (fun b _ _ H' => Q b H') E
def tL (mg : MG) (T : List (Addr × Str)) (E : XK) (r : Rho → Sto → Res (List D)) : TA := fun σ H Q => ∃ m ρ st, Rel mg T m ρ st σ H ∧ Wok mg T m H (r ρ st) (fun ds m' _ H' => ∀ vs, RVs mg m' H' vs ds → Q vs H') E
def tOI (mg : MG) (T : List (Addr × Str)) (E : XK) (r : Rho → Sto → Res (Option Int)) : TO := fun σ H Q => ∃ m ρ st, Rel mg T m ρ st σ H ∧ Wok mg T m H (r ρ st) (fun o _ _ H' => Q o H') E
theorem PE.mono {X : Cx} {e : Expr} {t t' : TE} (h : PE X e t) (i : ∀ σ H Q, t' σ H Q → t σ H Q) : PE X e t' := ⟨fun pins s σ H Q I w => h.run pins s σ H Q I (i σ H Q w)⟩
theorem PT.mono {X : Cx} {e : Expr} {t t' : TT} (h : PT X e t) (i : ∀ σ H Q, t' σ H Q → t σ H Q) : PT X e t' := ⟨fun pins s σ H Q I w => h.run pins s σ H Q I (i σ H Q w)⟩
theorem PW.mono {X : Cx} {e : Expr} {t t' : TT} (h : PW X e t) (i : ∀ σ H Q, t' σ H Q → t σ H Q) : PW X e t' := ⟨fun o pins s σ H Q I w => h.run o pins s σ H Q I (i σ H Q w)⟩
theorem PA.mono {X : Cx} {e : List Expr} {t t' : TA} (h : PA X e t) (i : ∀ σ H Q, t' σ H Q → t σ H Q) : PA X e t' := ⟨fun p pins s σ H Q I w => h.run p pins s σ H Q I (i σ H Q w)⟩
theorem PE.bad {X : Cx} {e : Expr} {t : TE} (i : ∀ σ H Q, ¬ t σ H Q) : PE X e t := ⟨fun pins s σ H Q I w => (i σ H Q w).elim⟩
section
variable {mg : MG} {T : List (Addr × Str)} {E : XK} {σ : L2.St} {H : Hp} {Q : VK} {ra rb rc : Rho → Sto → Res D} {X : Cx}
/-- a, then f on what it gave -/
theorem tX.seq {f : D → Rho → Sto → Res D} (h : tX mg T E (fun ρ st => (ra ρ st).bind fun x s1 => f x ρ s1) σ H Q) {K : VK}
    (k : ∀ x v H1 m1 ρ s1, Rel mg T m1 ρ s1 σ H1 → RV mg m1 H1 v x → Wok mg T m1 H1 (f x ρ s1) (KV mg Q) E → K v H1) : tX mg T E ra σ H K := by
  obtain ⟨m, ρ, st, R, w⟩ := h
  exact ⟨m, ρ, st, R, w.bind.imp fun x m1 s1 H1 R1 E1 w1 v rv => k x v H1 m1 ρ s1 (R.ext R1 E1) rv w1⟩
/-- the same inside: x kept -/
theorem tX.seq2 {f : D → D → Rho → Sto → Res D} (h : tX mg T E (fun ρ st => (ra ρ st).bind fun x s1 => (rb ρ s1).bind fun y s2 => f x y ρ s2) σ H Q) {K : V → V → Hp → Prop}
    (k : ∀ x y v u H1 m1 ρ s1, Rel mg T m1 ρ s1 σ H1 → RV mg m1 H1 v x → RV mg m1 H1 u y → Wok mg T m1 H1 (f x y ρ s1) (KV mg Q) E → K v u H1) : tX mg T E ra σ H fun v H1 => tX mg T E rb σ H1 fun u H2 => K v u H2 :=
  h.seq fun x v H1 m1 ρ s1 R rv w => ⟨m1, ρ, s1, R, w.bind.imp fun y m2 s2 H2 R2 E2 w2 u ru => k x y v u H2 m2 ρ s2 (R.ext R2 E2) (rv.ext E2) ru w2⟩
theorem giv_of {m : MA} {st : Sto} {d : D} (w : Wok mg T m H (.ok d st) (KV mg Q) E) : Giv mg T m st H d Q := fun v H' R Ee rv => w m H' R Ee v rv

theorem slot_at {x : Str} : ∀ {N : List Str} {i : Nat}, slot N x = some i → N[i]? = some x
  | [], _, h => by cases h
  | y :: r, i, h => by
    unfold slot at h
    split at h
    · rename_i e
      cases h
      rw [e]; rfl
    · rw [Option.map_eq_some_iff] at h
      obtain ⟨j, h1, rfl⟩ := h
      have := slot_at (N := r) h1
      simpa using this
theorem tx_var {G : Glb} {i : Nat} {pos : Pos} (h : tX mg T E (fun ρ st => match ρ[i]? with | some (some d) => frozen G pos d st | _ => .bad) σ H Q) : tVar i σ H Q := by
  obtain ⟨m, ρ, st, R, w⟩ := h
  dsimp only at w
  split at w
  · rename_i d e
    obtain ⟨v, h1, h2⟩ := R.re.at_ i d e
    refine ⟨v, h1, ?_⟩
    unfold frozen at w
    split at w
    · exact w.now R.rs v h2
    · split at w
      · split at w
        · rename_i n xs e2
          split at w
          · obtain ⟨a, vs, rfl, g1, g2, g3, g4, g5⟩ := h2.at_obj R.rs e2
            obtain ⟨f1, f2, f3⟩ := R.rs.freeze g1 e2
            exact w _ _ f1 f2 _ f3
          · exact w.elim
        · exact w.elim
      · exact w.elim
  · exact w.elim
theorem pe_cst {c : Const} {k : Nat} {pos : Pos} : PE X (.Constant c k pos) (tX mg T E fun _ st => .lift (cst c) st) := by
  cases c with
  | none => exact PE.mono pe_non fun σ H Q ⟨m, ρ, st, R, w⟩ => w.now R.rs _ .non
  | bool b => exact PE.mono pe_bl fun σ H Q ⟨m, ρ, st, R, w⟩ => w.now R.rs _ (.bl b)
  | int b => exact PE.mono pe_int fun σ H Q ⟨m, ρ, st, R, w⟩ => w.now R.rs _ (.int b)
  | str b => exact PE.mono pe_str fun σ H Q ⟨m, ρ, st, R, w⟩ => w.now R.rs _ (.str b)
  | _ => exact PE.bad fun σ H Q ⟨m, ρ, st, R, w⟩ => w.elim

theorem pe_bin {G : Glb} {op : Operator} {a b : Expr} {pos : Pos} (ha : PE X a (tX mg T E ra)) (hb : PE X b (tX mg T E rb)) :
    PE X (.BinOp a op b pos) (tX mg T E fun ρ st => (ra ρ st).bind fun x s1 => (rb ρ s1).bind fun y s2 => opAt G pos op x y s2) := by
  cases hk : G.mkr pos with
  | false =>
    refine PE.mono (pe_op (op_bin (mg := mg) (T := T)) ha hb) fun σ H Q h => ?_
    refine h.seq2 fun x y v u H1 m1 ρ s1 R rv ru w => ?_
    simp only [opAt, hk] at w
    obtain ⟨d, e, w⟩ := w.lift
    exact ⟨m1, s1, x, y, d, R.rs, rv, ru, e, giv_of w⟩
  | true =>
    have key : ∀ {xs : List D} {m1 : MA} {ρ : Rho} {s1 : Sto} {σ : L2.St} {H1 : Hp} {Q : VK} {vs : List V}, Rel mg T m1 ρ s1 σ H1 → RVs mg m1 H1 vs xs → vs.length ≤ LIM → Wok mg T m1 H1 (alloc G pos xs s1) (KV mg Q) E → ∀ p, H1 p = none → Q (.ref p) (upd H1 p (.lst vs)) := by
      intro xs m1 ρ s1 σ H1 Q vs R rv hl w p hp
      simp only [alloc, hk] at w
      split at w
      · obtain ⟨w1, w2⟩ := R.rs.alloc hp rv hl (by assumption)
        exact w _ _ w1 (R.rs.ext_new hp) _ w2
      · exact w.elim
    have sl : LIM = sizeLine := lim_eq
    by_cases hop : op = .Add
    · subst hop
      refine PE.mono (pe_op op_catS ha hb) fun σ H Q h => ?_
      refine h.seq2 fun x y v u H1 m1 ρ s1 R rv ru w => ?_
      simp only [opAt, hk] at w
      split at w
      · split at w
        · rename_i a b _ xs e
          simp only [binop] at e
          split at e
          · cases e
            cases rv with
            | lst h1 n1 l1 t1 => cases ru with
              | lst h2 n2 l2 t2 =>
                have e1 := t1.length
                have e2 := t2.length
                refine ⟨_, _, _, _, rfl, rfl, h1, h2, by omega, key R (t1.append t2) (by rw [List.length_append]; omega) w⟩
          · cases e
        · exact w.elim
      · contradiction
      · exact w.elim
    · by_cases hop2 : op = .Mult
      · subst hop2
        refine PE.mono (pe_op op_repS ha hb) fun σ H Q h => ?_
        refine h.seq2 fun x y v u H1 m1 ρ s1 R rv ru w => ?_
        simp only [opAt, hk] at w
        split at w
        · contradiction
        · split at w
          · rename_i _ _ a k _ _ xs e
            simp only [binop] at e
            split at e
            · rename_i hs
              simp only [Bool.and_eq_true, decide_eq_true_eq] at hs
              cases e
              cases ru
              cases rv with
              | lst h1 n1 l1 t1 =>
                have e1 := t1.length
                refine ⟨_, _, _, rfl, rfl, h1, by omega, by omega, by omega, key R (t1.rep _) ?_ w⟩
                show (rep _ _).length ≤ LIM
                rw [rep_length]
                have : Int.toNat k * List.length _ ≤ 1000 * 1000 := Nat.mul_le_mul (show Int.toNat k ≤ 1000 by omega) (show List.length _ ≤ 1000 from Nat.le_trans (Nat.le_of_eq e1) (by omega))
                unfold LIM
                omega
            · cases e
          · exact w.elim
        · exact w.elim
      · refine PE.mono (pe_op (op_bin (mg := mg) (T := T)) ha hb) fun σ H Q h => ?_
        refine h.seq2 fun x y v u H1 m1 ρ s1 R rv ru w => ?_
        simp only [opAt, hk] at w
        split at w
        · exact absurd rfl hop
        · exact absurd rfl hop2
        · exact w.elim
theorem pe_not1 {a : Expr} {pos : Pos} (ha : PE X a (tX mg T E ra)) :
    PE X (.UnaryOp .Not a pos) (tX mg T E fun ρ st => (ra ρ st).bind fun x s1 => match x with | .bool b => .ok (.bool (!b)) s1 | _ => .bad) := by
  refine PE.mono (pe_not ha) fun σ H Q h => ?_
  refine h.seq (f := fun x ρ s1 => match x with | .bool b => .ok (.bool (!b)) s1 | _ => .bad) fun x v H1 m1 ρ s1 R rv w => ?_
  split at w
  · cases rv
    exact ⟨_, rfl, w.now R.rs _ (.bl _)⟩
  · exact w.elim
theorem pe_neg1 {a : Expr} {pos : Pos} (ha : PE X a (tX mg T E ra)) :
    PE X (.UnaryOp .USub a pos) (tX mg T E fun ρ st => (ra ρ st).bind fun x s1 => match x with | .int i => .ok (.int (-i)) s1 | _ => .bad) := by
  refine PE.mono (pe_un un_neg ha) fun σ H Q h => ?_
  refine h.seq (f := fun x ρ s1 => match x with | .int i => .ok (.int (-i)) s1 | _ => .bad) fun x v H1 m1 ρ s1 R rv w => ?_
  split at w
  · cases rv
    exact ⟨_, rfl, w.now R.rs _ (.int _)⟩
  · exact w.elim
theorem rcmp_of {op : CmpOp} {x y : D} {v u : V} {m1 : MA} {s1 : Sto} {H1 : Hp} {Q : VK} {b : Bool} (R : RS mg T m1 s1 H1) (rv : RV mg m1 H1 v x) (ru : RV mg m1 H1 u y) (e : cmpop op x y = some b) (q : Q (.bl b) H1) : rCmp mg T op v u H1 Q :=
  ⟨m1, s1, x, y, b, R, rv, ru, e, q⟩
theorem pe_cmp1 {op : CmpOp} {a b : Expr} {pos : Pos} (hu : X.A.units + 64 < cLine) (hm : behindInMarks op b = false) (ha : PE X a (tX mg T E ra)) (hb : PE X b (tX mg T E rb)) :
    PE X (.Compare a [op] [b] pos) (tX mg T E fun ρ st => (ra ρ st).bind fun x s1 => (rb ρ s1).bind fun y s2 => .lift ((cmpop op x (lookS op y s2)).map .bool) s2) := by
  refine PE.mono (pe_cmpR (op_cmpS (mg := mg) (T := T) hu) ha hb hm) fun σ H Q h => ?_
  refine h.seq2 fun x y v u H1 m1 ρ s1 R rv ru w => ?_
  obtain ⟨d, e, w⟩ := w.lift
  rw [Option.map_eq_some_iff] at e
  obtain ⟨b, e, rfl⟩ := e
  exact ⟨m1, s1, x, y, b, R.rs, rv, ru, e, w.now R.rs _ (.bl b)⟩
theorem pe_cmp2 {op op' : CmpOp} {a b c : Expr} {pos : Pos} (hu : X.A.units + 64 < cLine) (hm : behindInMarks op' c = false) (ha : PE X a (tX mg T E ra)) (hb : PE X b (tX mg T E rb)) (hc : PE X c (tX mg T E rc)) :
    PE X (.Compare a [op, op'] [b, c] pos) (tX mg T E fun ρ st => (ra ρ st).bind fun x s1 => (rb ρ s1).bind fun y s2 => match cmpop op x y with
      | some true => (rc ρ s2).bind fun z s3 => .lift ((cmpop op' y z).map .bool) s3
      | some false => .ok (.bool false) s2
      | none => .bad) := by
  refine PE.mono (pe_chain (op_cmp (mg := mg) (T := T) hu) (op_cmp (mg := mg) (T := T) hu) ha hb hc (show lastMarks [op, op'] [b, c] = false from hm)) fun σ H Q h => ?_
  refine h.seq2 fun x y v u H1 m1 ρ s1 R rv ru w => ?_
  split at w
  · rename_i e
    refine rcmp_of R.rs rv ru e ⟨true, rfl, ?_⟩
    rw [if_pos rfl]
    refine ⟨m1, ρ, s1, R, w.bind.imp fun z m2 s2 H2 R2 E2 w2 t rt => ?_⟩
    obtain ⟨d, e, w2⟩ := w2.lift
    rw [Option.map_eq_some_iff] at e
    obtain ⟨b, e, rfl⟩ := e
    exact rcmp_of R2 (ru.ext E2) rt e (w2.now R2 _ (.bl b))
  · rename_i e
    refine rcmp_of R.rs rv ru e ⟨false, rfl, ?_⟩
    rw [if_neg (by decide)]
    exact w.now R.rs _ (.bl false)
  · exact w.elim

theorem pe_ix1 {a b : Expr} {pos : Pos} (hs : PlainIx b) (ha : PE X a (tX mg T E ra)) (hb : PE X b (tX mg T E rb)) :
    PE X (.Subscript a b pos) (tX mg T E fun ρ st => (ra ρ st).bind fun x s1 => (rb ρ s1).bind fun y s2 => .lift (item x y s2) s2) := by
  refine PE.mono (pe_ix (ix_item (mg := mg) (T := T)) ha hb hs) fun σ H Q h => ?_
  refine h.seq2 fun x y v u H1 m1 ρ s1 R rv ru w => ?_
  obtain ⟨d, e, w⟩ := w.lift
  exact ⟨m1, s1, x, y, d, R.rs, rv, ru, e, fun z rz => w.now R.rs z rz⟩
theorem pe_cut1 {a : Expr} {lo hi : Option Expr} {p2 pos : Pos} {rl rh : Rho → Sto → Res (Option Int)} (ha : PE X a (tX mg T E ra)) (hl : PO X lo (tOI mg T E rl)) (hh : PO X hi (tOI mg T E rh)) :
    PE X (.Subscript a (.Slice lo hi none p2) pos) (tX mg T E fun ρ st => (ra ρ st).bind fun x s1 => (rl ρ s1).bind fun l s2 => (rh ρ s2).bind fun h s3 => .lift (sliced x l h) s3) := by
  refine PE.mono (pe_slice (sl_cut (mg := mg) (T := T)) ha hl hh) fun σ H Q h => ?_
  refine h.seq fun x v H1 m1 ρ s1 R rv w => ?_
  refine ⟨m1, ρ, s1, R, w.bind.imp fun l m2 s2 H2 R2 E2 w2 => ⟨m2, ρ, s2, R.ext R2 E2, w2.bind.imp fun h m3 s3 H3 R3 E3 w3 => ?_⟩⟩
  obtain ⟨d, e, w3⟩ := w3.lift
  exact ⟨m3, s3, x, d, R3, (rv.ext E2).ext E3, e, giv_of w3⟩
theorem pe_rev1 {a : Expr} {k : Nat} {p1 p2 p3 pos : Pos} (ha : PE X a (tX mg T E ra)) :
    PE X (.Subscript a (.Slice none none (some (.UnaryOp .USub (.Constant (.int 1) k p1) p2)) p3) pos) (tX mg T E fun ρ st => (ra ρ st).bind fun x s1 => match x with | .list xs => .ok (.list xs.reverse) s1 | .tuple xs => .ok (.tuple xs.reverse) s1 | _ => .bad) := by
  refine PE.mono (pe_revB ha) fun σ H Q h => ?_
  refine h.seq (f := fun x ρ s1 => match x with | .list xs => .ok (.list xs.reverse) s1 | .tuple xs => .ok (.tuple xs.reverse) s1 | _ => .bad) fun x v H1 m1 ρ s1 R rv w => ?_
  split at w
  · cases rv with
    | lst h1 n1 l1 t1 => exact .inl ⟨_, _, rfl, .inl h1, fun p hp => (giv_of w).lst R.rs hp t1.reverse (by rw [List.length_reverse]; exact l1)⟩
  · cases rv with
    | tup h1 n1 l1 t1 => exact .inr ⟨_, _, rfl, .inl h1, fun p hp => (giv_of w).tup R.rs hp t1.reverse (by rw [List.length_reverse]; exact l1)⟩
  · exact w.elim

def tob (d : D) (s : Sto) : Res Bool := match d with
  | .bool b => .ok b s
  | _ => .bad
theorem pt_of {e : Expr} (ha : PE X e (tX mg T E ra)) (he : ∀ whole, isTrue e X.env whole = (do let v ← whole; standAt e.pos; holding [v] (truthy v))) : PT X e (tT mg T E fun ρ st => (ra ρ st).bind tob) := by
  refine PT.mono (pt_val ha he) fun σ H Q ⟨m, ρ, st, R, w⟩ => ⟨m, ρ, st, R, w.bind.imp fun x m1 s1 H1 R1 E1 w1 v rv => ?_⟩
  unfold tob at w1
  split at w1
  · cases rv
    exact ⟨_, rfl, w1.now R1⟩
  · exact w1.elim
theorem pt_not1 {a : Expr} {pos : Pos} (ha : PT X a (tT mg T E fun ρ st => (ra ρ st).bind tob)) :
    PT X (.UnaryOp .Not a pos) (tT mg T E fun ρ st => ((ra ρ st).bind fun x s1 => match x with | .bool b => .ok (.bool (!b)) s1 | _ => .bad).bind tob) := by
  refine PT.mono (pt_not ha) fun σ H Q ⟨m, ρ, st, R, w⟩ => ⟨m, ρ, st, R, ?_⟩
  dsimp only at w ⊢
  revert w
  cases ra ρ st with
  | ok d s =>
    intro w
    cases d <;> first | exact w | exact False.elim w
  | exc c s => exact fun w => w
  | bad => exact fun w => w
theorem pt_cmp1 {op : CmpOp} {a b : Expr} {pos : Pos} (hu : X.A.units + 64 < cLine) (hm : behindInMarks op b = false) (ha : PE X a (tX mg T E ra)) (hb : PE X b (tX mg T E rb)) :
    PT X (.Compare a [op] [b] pos) (tT mg T E fun ρ st => ((ra ρ st).bind fun x s1 => (rb ρ s1).bind fun y s2 => .lift ((cmpop op x (lookS op y s2)).map .bool) s2).bind tob) := by
  refine PT.mono (pt_cmpR (op_cmpS (mg := mg) (T := T) hu) ha hb hm) fun σ H Q ⟨m, ρ, st, R, w⟩ => ?_
  refine ⟨m, ρ, st, R, w.bind.bind.imp fun x m1 s1 H1 R1 E1 w1 v rv => ⟨m1, ρ, s1, R.ext R1 E1, w1.bind.imp fun y m2 s2 H2 R2 E2 w2 u ru => ?_⟩⟩
  cases e : cmpop op x (lookS op y s2) with
  | none => rw [e] at w2; exact w2.elim
  | some b =>
    rw [e] at w2
    exact ⟨m2, s2, x, y, b, R2, rv.ext E2, ru, e, b, rfl, Wok.now (a := b) (st := s2) (w2.now R2) R2⟩
end
end MP
set_option Elab.async false
set_option linter.all false
set_option maxRecDepth 100000
namespace MP
open PySem PySem.Spec PyProof.Rows L2 LamX

def SqB (K : PySem.W.Frag) (H : Hp) (a : Addr) (xs : List V) : Bool → Prop
  | true => SqT K H a xs
  | false => SqL K H a xs
def IterB (h : Heap) (i a : Addr) (k : Nat) : Bool → Prop
  | true => h.IsTupleIter i a k
  | false => h.IsListIter i a k
def IsB (h : Heap) (a : Addr) (its : Array Value) : Bool → Prop
  | true => h.IsTuple a its
  | false => h.IsList a its
theorem inv_sqB {X : Cx} {pins : List (Addr × Obj)} {σ : L2.St} {H : Hp} {s : Shared} {a : Addr} {xs : List V} (I : Inv X pins σ H s) : ∀ {b : Bool}, SqB X.K H a xs b → ∃ its : List Value, Vals xs its ∧ IsB s.heap a its.toArray b ∧ xs.length ≤ sizeLine
  | true, h => I.tuple h
  | false, h => let ⟨its, r, p, l⟩ := I.list h; ⟨its, r, p.isList, l⟩
theorem inv_sqB_inj {X : Cx} {pins : List (Addr × Obj)} {σ : L2.St} {H : Hp} {s : Shared} {a : Addr} {xs ys : List V} (I : Inv X pins σ H s) : ∀ {b : Bool}, SqB X.K H a xs b → SqB X.K H a ys b → xs = ys
  | true, h, g => I.tuple_inj h g
  | false, h, g => I.list_inj h g
theorem drawsB {prog : Program} {w : World} {A : Around} (hh : A.handled = none) (it l : Addr) (hne : l ≠ it) (items : Array Value) : ∀ b : Bool,
    Draws prog w A it [it, l] items.size (fun i v => items[i]? = some v) (fun i h => IterB h it l i b ∧ IsB h l items b)
  | true => Draws.tuple hh it l hne items
  | false => Draws.list hh it l hne items
theorem iterB_obj {h : Heap} {it a : Addr} {i : Nat} : ∀ {b : Bool}, IterB h it a i b → ∃ o, h.get? it = some o ∧ ∀ v, o.data ≠ .cell v
  | true, ⟨o, e, _, d⟩ => ⟨o, e, fun v q => by rw [d] at q; cases q⟩
  | false, ⟨o, e, _, d⟩ => ⟨o, e, fun v q => by rw [d] at q; cases q⟩
theorem iterB_at {h h' : Heap} {it a : Addr} {i : Nat} : ∀ {b : Bool}, IterB h it a i b → (∀ o, h.get? it = some o → h'.get? it = some o) → IterB h' it a i b
  | true, x, k => Heap.IsTupleIter.at x k
  | false, x, k => Heap.IsListIter.at x k
def ItzB (K : PySem.W.Frag) (a b : Addr) (ka kb : Bool) : It :=
  ⟨fun i H => ∃ (xs ys : List V) (x y : V), SqB K H a xs ka ∧ SqB K H b ys kb ∧ xs[i]? = some x ∧ ys[i]? = some y,
    fun i H v H' => ∃ T x y, v = .ref T ∧ H T = none ∧ H' = upd H T (.tup [x, y]) ∧ (∀ xs, SqB K H a xs ka → xs[i]? = some x) ∧ ∀ ys, SqB K H b ys kb → ys[i]? = some y,
    fun i H => ∃ xs ys : List V, SqB K H a xs ka ∧ SqB K H b ys kb ∧ i ≤ xs.length ∧ i ≤ ys.length ∧ (i = xs.length ∨ i = ys.length)⟩
theorem turn_zipB {P : Program} {w : World} {K : PySem.W.Frag} {elts : List Expr} {kk : Nat} {tpos : Pos} {a b z TI TO i1 i2 : Addr} {ka kb : Bool} (D : ZipSep2 z TI TO i1 i2 [i1, a] [i2, b]) (na : a ≠ i1) (nb : b ≠ i2) :
    Turn P w K (.Tuple elts kk tpos) (ItzB K a b ka kb) [z, TI, TO, i1, i2] z (fun i h => IsZip h z TI TO .none ∧ IsTupOf2 h TI (.ref i1) (.ref i2) ∧ (∃ x y, IsTupOf2 h TO x y) ∧ IterB h i1 a i ka ∧ IterB h i2 b i kb) where
  mem := by simp
  obj := fun i h st c hc => by
    obtain ⟨hz, hTI, ⟨x, y, hTO⟩, t1, t2⟩ := st
    have e' : c = z ∨ c = TI ∨ c = TO ∨ c = i1 ∨ c = i2 := by simpa using hc
    rcases e' with q | q | q | q | q
    · rw [q]; exact ⟨_, hz, fun v q => nomatch q⟩
    · rw [q]; exact ⟨_, hTI, fun v q => nomatch q⟩
    · rw [q]; exact ⟨_, hTO, fun v q => nomatch q⟩
    · rw [q]; exact iterB_obj t1
    · rw [q]; exact iterB_obj t2
  keep := fun i h h' st k => by
    obtain ⟨hz, hTI, ⟨x, y, hTO⟩, h1, h2⟩ := st
    exact ⟨k z (by simp) _ hz, k TI (by simp) _ hTI, ⟨x, y, k TO (by simp) _ hTO⟩, iterB_at h1 fun o q => k i1 (by simp) o q, iterB_at h2 fun o q => k i2 (by simp) o q⟩
  item := by
    intro X hP hw hK hc i pins s σ H E I hf st hg
    subst hP hw hK
    obtain ⟨hz, hTI, ⟨x0, y0, hTO⟩, h1, h2⟩ := st
    obtain ⟨xs, ys, x, y, hqx, hqy, hx, hy⟩ := hg
    obtain ⟨its, rv, p, _⟩ := inv_sqB I hqx
    obtain ⟨its2, rv2, p2, _⟩ := inv_sqB I hqy
    obtain ⟨u, hu, ru⟩ := rv.get hx
    obtain ⟨u2, hu2, ru2⟩ := rv2.get hy
    have hzl : z < s.heap.objs.size := Heap.lt_size hz
    have hh : X.A.in1.handled = none := I.ok.hd hc
    refine wpAny_pyNext_zipD2_item D (drawsB hh i1 a na its.toArray ka) (drawsB hh i2 b nb its2.toArray kb) hz hTI hTO ⟨h1, p⟩ ⟨h2, p2⟩ ?_ ?_ fun w1 w2 h' tk e1 e2 z' TO' st1' st2' hT hsz hk => ?_
    · have := (List.getElem?_eq_some_iff.mp hu).1
      simpa using this
    · have := (List.getElem?_eq_some_iff.mp hu2).1
      simpa using this
    obtain rfl : u = w1 := by
      have : some u = some w1 := by rw [← hu, ← e1]; simp
      exact Option.some.inj this
    obtain rfl : u2 = w2 := by
      have : some u2 = some w2 := by rw [← hu2, ← e2]; simp
      exact Option.some.inj this
    refine ⟨_, rfl, wpAny_letOwnedTupleGo_zip (s := { s with heap := h', toks := tk }) z' fun h'' z'' sb => ?_⟩
    have hT2 : h''.get? s.heap.objs.size = some { cls := .type "tuple", data := .seq #[u, u2] } := (sb.2 _ (Nat.ne_of_gt hzl)).trans hT
    have new : ObjOk X.prog X.w (upd H s.heap.objs.size (.tup [x, y])) h'' s.heap.objs.size (.tup [x, y]) :=
      ⟨by show 2 ≤ sizeLine; decide, [u, u2], .cons ru (.cons ru2 .nil), ⟨_, hT2, rfl, _, rfl⟩⟩
    have I1 : Inv X pins σ (upd H s.heap.objs.size (.tup [x, y])) { s with heap := h'', toks := tk } :=
      I.turnedNew (t' := tk) (ch := [z, TI, TO, i1, i2]) (fun c o hb q => (sb.2 c (fun q' => hb (by simp [q']))).trans (hk c o (fun q' => hb (by simp [q'])) (fun q' => hb (by simp [q'])) (fun q' => hb (by simp [q'])) (fun q' => hb (by simp [q'])) q)) hf (Nat.le_refl _) new
    have zi1 := D.zi1
    have zi2 := D.zi2
    refine ⟨.ref s.heap.objs.size, _, I1, rfl, ⟨_, x, y, rfl, I.hok.fresh (Nat.le_refl _), rfl, fun l hl => by rw [inv_sqB_inj I hl hqx]; exact hx, fun l hl => by rw [inv_sqB_inj I hl hqy]; exact hy⟩, ⟨z'', ?_, ⟨u, u2, ?_⟩, ?_, ?_⟩, fun c hcm => ?_⟩
    · exact (sb.2 _ D.TIz).trans (hk _ _ D.TIz D.TITO D.TIi1 D.TIi2 hTI)
    · exact (sb.2 _ D.TOz).trans TO'
    · exact iterB_at st1'.1 fun o q => (sb.2 _ zi1.symm).trans q
    · exact iterB_at st2'.1 fun o q => (sb.2 _ zi2.symm).trans q
    · have hlt : c < s.heap.objs.size := by
        have e' : c = z ∨ c = TI ∨ c = TO ∨ c = i1 ∨ c = i2 := by simpa using hcm
        rcases e' with q | q | q | q | q
        · rw [q]; exact hzl
        · rw [q]; exact Heap.lt_size hTI
        · rw [q]; exact Heap.lt_size hTO
        · rw [q]; obtain ⟨_, e1, _⟩ := iterB_obj h1; exact Heap.lt_size e1
        · rw [q]; obtain ⟨_, e2, _⟩ := iterB_obj h2; exact Heap.lt_size e2
      rw [upd_ne (Nat.ne_of_lt hlt)]
      exact (hf c hcm).1
  done := by
    intro X hP hw hK hc i pins s σ H E I hf st hg
    subst hP hw hK
    obtain ⟨hz, hTI, ⟨x0, y0, hTO⟩, h1, h2⟩ := st
    obtain ⟨xs, ys, hqx, hqy, l1, l2, hend⟩ := hg
    obtain ⟨its, rv, p, _⟩ := inv_sqB I hqx
    obtain ⟨its2, rv2, p2, _⟩ := inv_sqB I hqy
    have g1 := rv.length
    have g2 := rv2.length
    have hh : X.A.in1.handled = none := I.ok.hd hc
    refine wpAny_pyNext_zipD2_end D (drawsB hh i1 a na its.toArray ka) (drawsB hh i2 b nb its2.toArray kb) hz hTI hTO ⟨h1, p⟩ ⟨h2, p2⟩ (by simp; omega) (by simp; omega) (by simp; omega) fun h' tk hk => ⟨rfl, I.turnedL (t' := tk) (ch := [z, TI, TO, i1, i2]) (fun c o hb q =>
      hk c o (fun q' => hb (by simp [q'])) (fun q' => hb (by simp [q'])) (fun q' => hb (by simp [q'])) (fun q' => hb (by simp [q'])) q) hf⟩
  self := fun A i s Q E st h => wpAny_pyIter_zip st.1 h
def iZipB (K : PySem.W.Frag) (ta : TA) : TI := fun σ H R => ta σ H fun vs H1 => ∃ a b xs ys ka kb, vs = [.ref a, .ref b] ∧ SqB K H1 a xs ka ∧ SqB K H1 b ys kb ∧ R (ItzB K a b ka kb) H1
def itO (a : Addr) : Bool → Obj
  | true => { cls := .type "tuple_iterator", data := .fields #[.ref a, .int 0 0] }
  | false => { cls := .type "list_iterator", data := .fields #[.ref a, .int 0 0] }
theorem beginsB (a : Addr) (items : Array Value) : ∀ b : Bool, Begins (.ref a) (itO a b) fun h => IsB h a items b
  | true => begins_tuple a items
  | false => begins_list a items
theorem iterB_new {h : Heap} {it a : Addr} : ∀ {b : Bool}, h.get? it = some (itO a b) → IterB h it a 0 b
  | true, e => ⟨_, e, rfl, rfl⟩
  | false, e => ⟨_, e, rfl, rfl⟩
theorem isB_lt {h : Heap} {a : Addr} {its : Array Value} : ∀ {b : Bool}, IsB h a its b → a < h.objs.size
  | true, ⟨_, e, _⟩ => Heap.lt_size e
  | false, ⟨_, e, _⟩ => Heap.lt_size e
theorem pi_zipB {X : Cx} {e e2 : Expr} {ta : TA} {p pos tpos : Pos} {elts : List Expr} {kk : Nat} (hg : Gl X "zip") (hm : X.mg "zip" = none) (ha : PA X [e, e2] ta)
    (hs : starEach [e, e2] X.env = (false, eval e X.env) :: starEach [e2] X.env) (hpl : (backTo pos (starEach [e2] X.env)).any (·.1) = false) :
    PI X (.Tuple elts kk tpos) (.Call (.Name "zip" p) [e, e2] [] pos) (iZipB X.K ta) := by
  refine ⟨fun pins s σ H R I h => ?_⟩
  refine Call_ (ld_blt I hg hm PyProof.Rows.boot_zip (PyProof.Rows.callWith_type1 (thn (ha.run pos pins s σ H _ I h) fun us s1 ⟨vs, H1, I1, r1, q1⟩ => ?_) hs hpl))
  obtain ⟨a, b, xs, ys, ka, kb, ex, hqx, hqy, q⟩ := q1
  subst ex
  cases r1 with
  | cons r rr =>
    cases rr with
    | cons r' rr =>
      cases rr
      cases r
      cases r'
      have fresh5 : ∀ c, c ∈ [s1.heap.objs.size + 4, s1.heap.objs.size + 2, s1.heap.objs.size + 3, s1.heap.objs.size, s1.heap.objs.size + 1] → FpOk X pins H1 c := fun c hcm => by
        have e' : c = s1.heap.objs.size + 4 ∨ c = s1.heap.objs.size + 2 ∨ c = s1.heap.objs.size + 3 ∨ c = s1.heap.objs.size ∨ c = s1.heap.objs.size + 1 := by simpa using hcm
        have hle : s1.heap.objs.size ≤ c := by
          rcases e' with z | z | z | z | z
          · rw [z]; exact Nat.le_add_right _ _
          · rw [z]; exact Nat.le_add_right _ _
          · rw [z]; exact Nat.le_add_right _ _
          · rw [z]; exact Nat.le_refl _
          · rw [z]; exact Nat.le_add_right _ _
        exact I1.fpOk hle (I1.hok.fresh hle)
      obtain ⟨its, rv, p1, _⟩ := inv_sqB I1 hqx
      obtain ⟨its2, rv2, p2, _⟩ := inv_sqB I1 hqy
      have l1 := isB_lt p1
      have l2 := isB_lt p2
      refine zip_begins2 (beginsB a its.toArray ka) (beginsB b its2.toArray kb) p1 p2 fun h' hz hTI hTO h1 h2 hsz hk => wpAny_pyIter_zip hz ?_
      have I2 : Inv X pins σ H1 { s1 with heap := h' } := I1.kept (t' := s1.toks) hk
      have na : a ≠ s1.heap.objs.size := Nat.ne_of_lt l1
      have na1 : a ≠ s1.heap.objs.size + 1 := Nat.ne_of_lt (Nat.lt_succ_of_lt l1)
      have nb : b ≠ s1.heap.objs.size + 1 := Nat.ne_of_lt (Nat.lt_succ_of_lt l2)
      have nb0 : b ≠ s1.heap.objs.size := Nat.ne_of_lt l2
      have x : ∀ {c k : Nat}, c < s1.heap.objs.size → s1.heap.objs.size + k ≠ c := fun {c k} h e => absurd h (by rw [← e]; exact Nat.not_lt.mpr (Nat.le_add_right _ _))
      have y : ∀ {j k : Nat}, j ≠ k → s1.heap.objs.size + j ≠ s1.heap.objs.size + k := fun h e => h (Nat.add_left_cancel e)
      have D : ZipSep2 (s1.heap.objs.size + 4) (s1.heap.objs.size + 2) (s1.heap.objs.size + 3) s1.heap.objs.size (s1.heap.objs.size + 1) [s1.heap.objs.size, a] [s1.heap.objs.size + 1, b] := by
        refine ⟨y (by decide), y (by decide), y (by decide), y (k := 0) (by decide), by simp, ?_, ?_, y (by decide), by simp, ?_, ?_, ?_, ?_⟩
        · exact fun h => (List.mem_cons.mp h).elim (y (k := 0) (by decide)) fun h => x l1 (List.mem_singleton.mp h)
        · exact fun h => (List.mem_cons.mp h).elim (y (k := 0) (by decide)) fun h => x l1 (List.mem_singleton.mp h)
        · exact fun h => (List.mem_cons.mp h).elim (y (by decide)) fun h => x l2 (List.mem_singleton.mp h)
        · exact fun h => (List.mem_cons.mp h).elim (y (by decide)) fun h => x l2 (List.mem_singleton.mp h)
        · exact fun h => (List.mem_cons.mp h).elim (y (j := 0) (by decide)) fun h => nb0 (List.mem_singleton.mp h).symm
        · exact fun h => (List.mem_cons.mp h).elim (y (k := 0) (by decide)) fun h => na1 (List.mem_singleton.mp h).symm
      exact ⟨s1.heap.objs.size + 4, [s1.heap.objs.size + 4, s1.heap.objs.size + 2, s1.heap.objs.size + 3, s1.heap.objs.size, s1.heap.objs.size + 1], _, _, H1, rfl, I2, turn_zipB D na nb, ⟨hz, hTI, ⟨_, _, hTO⟩, iterB_new h1, iterB_new h2⟩, fresh5, q⟩
end MP
set_option Elab.async false
set_option linter.all false
set_option maxRecDepth 100000
set_option maxHeartbeats 1000000
namespace MP
open PySem PySem.Spec PyProof.Rows L2 LamX
open AutoSeq1 (wpAny_loadPart')
theorem meets_enumerate_newT (l : Addr) (items : Array Value) (n : Nat) (dct : Option Addr) (sl : Array (Option Value)) :
    Meets (Builtin.«enumerate.__new__» ⟨[.type "enumerate", .ref l], []⟩) (fun _ R s => s.heap.get? l = some { cls := .type "tuple", dict := dct, data := .seq items n, slots := sl } ∧
      R (.ok (.ret (.ref (s.heap.push { cls := .type "tuple_iterator", data := .fields #[.ref l, .int 0 0] }).objs.size)))
        { s with heap := (s.heap.push { cls := .type "tuple_iterator", data := .fields #[.ref l, .int 0 0] }).push { cls := .type "enumerate", data := .fields #[.none, .bool false, .ref s.heap.objs.size, rawInt 0, .none, .none] } }) :=
  .of_wp fun prog w A R s h => by
    obtain ⟨hp, g, d, tk, os⟩ := s; obtain ⟨hl, h⟩ := h
    have hsub := sub_enumerate
    have hL : Heap.IsTuple (Shared.heap ⟨hp, g, d, tk, os⟩) l items := ⟨_, hl, rfl, n, rfl⟩
    wp_walk using wpAny_loadPart' hl
    refine wpAny_stack_any fun st => wpAny_pure ?_
    split
    · rename_i c _ _ _ _ _
      cases (c == Value.type "enumerate")
      · wp_walk using wpAny_loadPart' hl, wpAny_pyIter_tuple hL
        exact ⟨_, rfl, h⟩
      · wp_walk using wpAny_loadPart' hl, wpAny_pyIter_tuple hL
        exact ⟨_, rfl, h⟩
    · wp_walk using wpAny_loadPart' hl, wpAny_pyIter_tuple hL
      exact ⟨_, rfl, h⟩
section
variable {prog : Program} {w : World} {A : Around} {E : Value → Shared → Prop} {s : Shared}
theorem call_enumerate_tuple {l : Addr} {items : Array Value} {Q : Value → Shared → Prop} (hL : s.heap.IsTuple l items)
    (h : ∀ h', IsEnum h' (s.heap.objs.size + 1) s.heap.objs.size 0 .none → h'.IsTupleIter s.heap.objs.size l 0 → h'.objs.size = s.heap.objs.size + 2 →
      (∀ b o, s.heap.get? b = some o → h'.get? b = some o) → Q (.ref (s.heap.objs.size + 1)) { s with heap := h' }) :
    wpAny (model prog w) A (call (.type "enumerate") [.ref l]) Q E s := by
  obtain ⟨⟨c, dct, dt, sl⟩, hl, hc, n, hd⟩ := hL
  replace hc : c = .type "tuple" := hc
  replace hd : dt = .seq items n := hd
  subst hc hd
  refine callType_new F.called_enumerate (by decide) (F.typeCall_enumerate_1 _) (F.newCall_enumerate_1 _) (fun obj => F.args_object_init_2 obj _) F.entry_enumerate_new
    (meets_enumerate_newT l items n dct sl) ⟨hl, ?_⟩
  have hz : (s.heap.push { cls := .type "tuple_iterator", data := .fields #[.ref l, .int 0 0] }).objs.size = s.heap.objs.size + 1 := Heap.size_push ..
  show _ ∧ _
  rw [hz]
  have he : IsEnum ((s.heap.push { cls := .type "tuple_iterator", data := .fields #[.ref l, .int 0 0] }).push
      { cls := .type "enumerate", data := .fields #[.none, .bool false, .ref s.heap.objs.size, rawInt 0, .none, .none] }) (s.heap.objs.size + 1) s.heap.objs.size 0 .none := by
    have := Heap.get?_push_size (s.heap.push { cls := .type "tuple_iterator", data := .fields #[.ref l, .int 0 0] })
      (o := { cls := .type "enumerate", data := .fields #[.none, .bool false, .ref s.heap.objs.size, rawInt 0, .none, .none] }) rfl
    rw [hz] at this; exact this
  refine ⟨⟨_, he, rfl⟩, h _ he ⟨_, Heap.get?_push_of_some _ (Heap.get?_push_size _ rfl), rfl, rfl⟩ (by rw [Heap.size_push, hz]) fun b o x => Heap.get?_push_of_some _ (Heap.get?_push_of_some _ x)⟩
theorem call_enumerateB {l : Addr} {items : Array Value} {Q : Value → Shared → Prop} : ∀ {b : Bool}, IsB s.heap l items b →
    (∀ h', IsEnum h' (s.heap.objs.size + 1) s.heap.objs.size 0 .none → IterB h' s.heap.objs.size l 0 b → h'.objs.size = s.heap.objs.size + 2 →
      (∀ b o, s.heap.get? b = some o → h'.get? b = some o) → Q (.ref (s.heap.objs.size + 1)) { s with heap := h' }) →
    wpAny (model prog w) A (call (.type "enumerate") [.ref l]) Q E s
  | true, hL, h => call_enumerate_tuple hL h
  | false, hL, h => call_enumerate_list hL h
end
def IteB (K : PySem.W.Frag) (a : Addr) (ka : Bool) : It :=
  ⟨fun i H => ∃ (xs : List V) (x : V), SqB K H a xs ka ∧ xs[i]? = some x, fun i H v H' => ∃ T x, v = .ref T ∧ H T = none ∧ H' = upd H T (.tup [.int (i : Nat), x]) ∧ ∀ xs, SqB K H a xs ka → xs[i]? = some x, fun i H => ∃ xs : List V, SqB K H a xs ka ∧ i = xs.length⟩
theorem turn_enumB {P : Program} {w : World} {K : PySem.W.Frag} {elts : List Expr} {kk : Nat} {tpos : Pos} {a e it : Addr} {ka : Bool} (na : a ≠ it) (nea : e ≠ a) :
    Turn P w K (.Tuple elts kk tpos) (IteB K a ka) [e, it] e (fun i h => (∃ old, IsEnum h e it ((i : Nat) : Int) old) ∧ IterB h it a i ka ∧ e ≠ it) where
  mem := by simp
  obj := fun i h st b hb => by
    obtain ⟨⟨old, he⟩, hi, _⟩ := st
    have e' : b = e ∨ b = it := by simpa using hb
    rcases e' with z | z
    · rw [z]; exact ⟨_, he, fun v q => nomatch q⟩
    · rw [z]; exact iterB_obj hi
  keep := fun i h h' st k => let ⟨⟨old, he⟩, hi, hne⟩ := st; ⟨⟨old, k e (by simp) _ he⟩, iterB_at hi fun o q => k it (by simp) o q, hne⟩
  item := by
    intro X hP hw hK hc i pins s σ H E I hf st hg
    subst hP hw hK
    obtain ⟨⟨old, he⟩, hit, hne⟩ := st
    obtain ⟨xs, x, hq, hx⟩ := hg
    obtain ⟨its, rv, p, hz⟩ := inv_sqB I hq
    obtain ⟨u, hu, ru⟩ := rv.get hx
    have hel : e < s.heap.objs.size := Heap.lt_size he
    have hil : it < s.heap.objs.size := by obtain ⟨_, q, _⟩ := iterB_obj hit; exact Heap.lt_size q
    have hlt : i < its.toArray.size := by
      have := (List.getElem?_eq_some_iff.mp hu).1
      simpa using this
    have hh : X.A.in1.handled = none := I.ok.hd hc
    refine wpAny_pyNext_enum_itemD (drawsB hh it a na its.toArray ka) he ⟨hit, p⟩ hlt hne (by simp only [List.mem_cons, List.not_mem_nil, or_false, not_or]; exact ⟨hne, nea⟩) fun w1 h' tk e1 ho hst' hT hsz hk => ?_
    obtain rfl : u = w1 := by
      have : some u = some w1 := by rw [← hu, ← e1]; simp
      exact Option.some.inj this
    refine ⟨_, rfl, wpAny_letOwnedTupleGo_enum (s := { s with heap := h', toks := tk + 1 }) ho fun h'' he' sb => ?_⟩
    have hT2 : h''.get? s.heap.objs.size = some { cls := .type "tuple", data := .seq #[.int i tk, u] } := (sb.2 _ (Nat.ne_of_gt hel)).trans hT
    have new : ObjOk X.prog X.w (upd H s.heap.objs.size (.tup [.int (i : Nat), x])) h'' s.heap.objs.size (.tup [.int (i : Nat), x]) :=
      ⟨by show 2 ≤ sizeLine; decide, [.int i tk, u], .cons ⟨_, rfl⟩ (.cons ru .nil), ⟨_, hT2, rfl, _, rfl⟩⟩
    have I1 : Inv X pins σ (upd H s.heap.objs.size (.tup [.int (i : Nat), x])) { s with heap := h'', toks := tk + 1 } :=
      I.turnedNew (ch := [e, it]) (fun b ob hb q => (sb.2 b (fun z => hb (by simp [z]))).trans (hk b ob (fun z => hb (by simp [z])) (fun z => hb (by simp [z])) q)) hf (Nat.le_refl _) new
    refine ⟨.ref s.heap.objs.size, _, I1, rfl, ⟨_, x, rfl, I.hok.fresh (Nat.le_refl _), rfl, fun ys hy => by rw [inv_sqB_inj I hy hq]; exact hx⟩, ⟨⟨u, ?_⟩, iterB_at hst'.1 fun o q => (sb.2 it (Ne.symm hne)).trans q, hne⟩, fun b hb => ?_⟩
    · have e1 : ((i + 1 : Nat) : Int) = (i : Int) + 1 := by omega
      rw [e1]; exact he'
    · have hb' : b < s.heap.objs.size := by
        have e' : b = e ∨ b = it := by simpa using hb
        rcases e' with z | z
        · rw [z]; exact hel
        · rw [z]; exact hil
      rw [upd_ne (Nat.ne_of_lt hb')]
      exact (hf b hb).1
  done := by
    intro X hP hw hK hc i pins s σ H E I hf st hg
    subst hP hw hK
    obtain ⟨⟨old, he⟩, hit, hne⟩ := st
    obtain ⟨xs, hq, hx⟩ := hg
    obtain ⟨its, rv, p, hz⟩ := inv_sqB I hq
    have hl := rv.length
    have hi : i = its.toArray.size := by simp; omega
    subst hi
    have hh : X.A.in1.handled = none := I.ok.hd hc
    refine wpAny_pyNext_enum_endD (drawsB hh it a na its.toArray ka) he ⟨hit, p⟩ fun h' eb => ⟨rfl, I.turnedL (t' := s.toks) (ch := [e, it]) (fun b o hb q => eb b o (fun z => hb (by simp [z])) q) hf⟩
  self := fun A i s Q E st h => let ⟨⟨_, he⟩, _⟩ := st; wpAny_pyIter_enum he h
def iEnumB (K : PySem.W.Frag) (ta : TA) : TI := fun σ H R => ta σ H fun vs H1 => ∃ a xs ka, vs = [.ref a] ∧ SqB K H1 a xs ka ∧ R (IteB K a ka) H1
theorem pi_enumB {X : Cx} {e : Expr} {ta : TA} {p pos tpos : Pos} {elts : List Expr} {kk : Nat} (hg : Gl X "enumerate") (hm : X.mg "enumerate" = none) (ha : PA X [e] ta) (hs : starEach [e] X.env = [(false, eval e X.env)]) :
    PI X (.Tuple elts kk tpos) (.Call (.Name "enumerate" p) [e] [] pos) (iEnumB X.K ta) := by
  refine ⟨fun pins s σ H R I h => ?_⟩
  refine Call_ (ld_blt I hg hm boot_enumerate (PyProof.Rows.callWith_type1 (thn (ha.run pos pins s σ H _ I h) fun us s1 ⟨vs, H1, I1, r1, q1⟩ => ?_) hs rfl))
  obtain ⟨a, xs, ka, ex, hq, q⟩ := q1
  subst ex
  cases r1 with
  | cons r rr =>
    cases rr
    cases r
    obtain ⟨its, rv, p', hz⟩ := inv_sqB I1 hq
    have hla := isB_lt p'
    refine call_enumerateB p' fun h' he hit hsz hk => wpAny_pyIter_enum he ?_
    have I2 : Inv X pins σ H1 { s1 with heap := h' } := I1.kept (t' := s1.toks) hk
    refine ⟨s1.heap.objs.size + 1, [s1.heap.objs.size + 1, s1.heap.objs.size], _, _, H1, rfl, I2, turn_enumB (a := a) (Nat.ne_of_lt hla) (Nat.ne_of_gt (Nat.lt_succ_of_lt hla)), ⟨⟨.none, he⟩, hit, Nat.succ_ne_self _⟩, fun b hb => ?_, q⟩
    have e' : b = s1.heap.objs.size + 1 ∨ b = s1.heap.objs.size := by simpa using hb
    have hle : s1.heap.objs.size ≤ b := by
      rcases e' with z | z
      · rw [z]; exact Nat.le_add_right _ _
      · rw [z]; exact Nat.le_refl _
    exact I1.fpOk hle (I1.hok.fresh hle)
end MP
set_option Elab.async false
set_option linter.all false
set_option maxRecDepth 100000
namespace MP
open PySem PySem.Spec PyProof.Rows L2 LamX

/-- J gives these values, one after another, while nothing that is seen changes -/
structure Wk (mg : MG) (T : List (Addr × Str)) (J : It) (m : MA) (H : Hp) (ds : List D) : Prop where
  len : ds.length ≤ LIM
  step : ∀ (i : Nat) d m1 st1 H1, Ext0 m H m1 H1 → RS mg T m1 st1 H1 → ds[i]? = some d → J.go i H1 ∧ ∀ x H2, J.yld i H1 x H2 → RS mg T m1 st1 H2 ∧ Ext m1 H1 m1 H2 ∧ RV mg m1 H2 x d
  stop : ∀ m1 H1, Ext0 m H m1 H1 → J.stop ds.length H1
def tI (mg : MG) (T : List (Addr × Str)) (E : XK) (r : Rho → Sto → Res (List D)) : TI := fun σ H R => ∃ m ρ st, Rel mg T m ρ st σ H ∧ Wok mg T m H (r ρ st) (fun ds m' _ H' => ∀ J, Wk mg T J m' H' ds → R J H') E
theorem PI.mono {X : Cx} {tg e : Expr} {t t' : TI} (h : PI X tg e t) (i : ∀ σ H Q, t' σ H Q → t σ H Q) : PI X tg e t' := ⟨fun pins s σ H Q I w => h.run pins s σ H Q I (i σ H Q w)⟩
section
variable {mg : MG} {T : List (Addr × Str)} {E : XK} {m : MA} {H : Hp} {K : PySem.W.Frag}
theorem rv_sq {v : V} {d : D} {ds : List D} (r : RV mg m H v d) (e : asSeq d = some ds) : ∃ a vs k, v = .ref a ∧ RVs mg m H vs ds ∧ vs.length ≤ LIM ∧ ∀ m1 H1, Ext0 m H m1 H1 → SqB K H1 a vs k := by
  cases r with
  | lst h1 n1 l1 t1 =>
    cases e
    exact ⟨_, _, false, rfl, t1, l1, fun m1 H1 e => .inl (e.rd h1 n1 fun _ z => by cases z).1⟩
  | tup h1 n1 l1 t1 =>
    cases e
    exact ⟨_, _, true, rfl, t1, l1, fun m1 H1 e => .inl (e.rd h1 n1 fun _ z => by cases z).1⟩
  | _ => cases e
theorem sqB_inj {a : Addr} {xs ys : List V} {k : Bool} {H : Hp} (h : SqB K H a xs k) (q : ∀ xs, SqB K H a xs k → xs = ys) : xs = ys := q xs h
def ItB (K : PySem.W.Frag) (a : Addr) : Bool → It
  | true => Itt K a
  | false => Itl K a
theorem itB_go {a : Addr} {k : Bool} {i : Nat} {H : Hp} {vs : List V} {x : V} (h : SqB K H a vs k) (e : vs[i]? = some x) : (ItB K a k).go i H := by
  cases k <;> exact ⟨vs, x, h, e⟩
theorem itB_yld {a : Addr} {k : Bool} {i : Nat} {H H' : Hp} {vs : List V} {x y : V} (h : SqB K H a vs k) (e : vs[i]? = some x) (q : (ItB K a k).yld i H y H') : H' = H ∧ y = x := by
  cases k
  · obtain ⟨rfl, q⟩ := q
    exact ⟨rfl, Option.some.inj ((q vs h).symm.trans e)⟩
  · obtain ⟨rfl, q⟩ := q
    exact ⟨rfl, Option.some.inj ((q vs h).symm.trans e)⟩
theorem itB_stop {a : Addr} {k : Bool} {i : Nat} {H : Hp} {vs : List V} (h : SqB K H a vs k) (e : vs.length ≤ i) : (ItB K a k).stop i H := by
  cases k <;> exact ⟨vs, h, e⟩
theorem wk_sq {a : Addr} {vs : List V} {k : Bool} {ds : List D} (t : RVs mg m H vs ds) (l : vs.length ≤ LIM) (h : ∀ m1 H1, Ext0 m H m1 H1 → SqB K H1 a vs k) : Wk mg T (ItB K a k) m H ds where
  len := by rw [← t.length]; exact l
  step := fun i d m1 st1 H1 e R hd => by
    obtain ⟨x, h1, h2⟩ := t.get hd
    refine ⟨itB_go (h m1 H1 e) h1, fun y H2 q => ?_⟩
    obtain ⟨rfl, rfl⟩ := itB_yld (h m1 H1 e) h1 q
    exact ⟨R, Ext.refl _ _, h2.ext0 e⟩
  stop := fun m1 H1 e => itB_stop (h m1 H1 e) (by rw [t.length]; exact Nat.le_refl _)
theorem pair_new {x y : V} {dx dy : D} {m1 : MA} {st1 : Sto} {H1 : Hp} {p : Addr} (R : RS mg T m1 st1 H1) (hp : H1 p = none) (hx : RV mg m1 H1 x dx) (hy : RV mg m1 H1 y dy) :
    RS mg T m1 st1 (upd H1 p (.tup [x, y])) ∧ Ext m1 H1 m1 (upd H1 p (.tup [x, y])) ∧ RV mg m1 (upd H1 p (.tup [x, y])) (.ref p) (.tuple [dx, dy]) :=
  ⟨R.upd hp, R.ext_upd hp, RV.new_tup R hp (.cons hx (.cons hy .nil)) (by show 2 ≤ LIM; decide)⟩
theorem wk_zip {a b : Addr} {vs ws : List V} {k l : Bool} {ds es : List D} (t : RVs mg m H vs ds) (u : RVs mg m H ws es) (l1 : vs.length ≤ LIM) (h : ∀ m1 H1, Ext0 m H m1 H1 → SqB K H1 a vs k) (g : ∀ m1 H1, Ext0 m H m1 H1 → SqB K H1 b ws l)
    (inj : ∀ m1 H1 xs, Ext0 m H m1 H1 → SqB K H1 a xs k → True) : Wk mg T (ItzB K a b k l) m H (zipL ds es) where
  len := by
    unfold zipL
    rw [List.length_zipWith, ← t.length]
    omega
  step := fun i d m1 st1 H1 e R hd => by
    unfold zipL at hd
    rw [List.getElem?_zipWith] at hd
    cases e1 : ds[i]? with
    | none => rw [e1] at hd; cases hd
    | some dx => cases e2 : es[i]? with
      | none => rw [e1, e2] at hd; cases hd
      | some dy =>
        rw [e1, e2] at hd
        cases hd
        obtain ⟨x, h1, h2⟩ := t.get e1
        obtain ⟨y, g1, g2⟩ := u.get e2
        refine ⟨⟨vs, ws, x, y, h m1 H1 e, g m1 H1 e, h1, g1⟩, fun z H2 q => ?_⟩
        obtain ⟨p, x', y', rfl, hp, rfl, q1, q2⟩ := q
        obtain rfl : x = x' := Option.some.inj (h1.symm.trans (q1 vs (h m1 H1 e)))
        obtain rfl : y = y' := Option.some.inj (g1.symm.trans (q2 ws (g m1 H1 e)))
        exact pair_new R hp (h2.ext0 e) (g2.ext0 e)
  stop := fun m1 H1 e => by
    have z1 := t.length
    have z2 := u.length
    unfold zipL
    rw [List.length_zipWith]
    exact ⟨vs, ws, h m1 H1 e, g m1 H1 e, by omega, by omega, by omega⟩
theorem wk_range {lo hi : Int} (h : rngOk lo hi = true) : Wk mg T (Itr lo (hi - lo).toNat) m H (rngL lo hi) where
  len := by
    unfold rngOk at h
    simp only [Bool.and_eq_true, decide_eq_true_eq] at h
    unfold rngL
    rw [List.length_map, List.length_range]
    exact h.1
  step := fun i d m1 st1 H1 e R hd => by
    unfold rngL at hd
    by_cases hlt : i < (hi - lo).toNat
    · rw [List.getElem?_map, List.getElem?_range hlt] at hd
      cases hd
      exact ⟨hlt, fun x H2 q => by obtain ⟨rfl, rfl⟩ := q; exact ⟨R, Ext.refl _ _, .int _⟩⟩
    · rw [List.getElem?_eq_none (by rw [List.length_map, List.length_range]; omega)] at hd
      cases hd
  stop := fun m1 H1 e => by
    unfold rngL
    rw [List.length_map, List.length_range]
    exact Nat.le_refl _
theorem wk_enum {a : Addr} {k : Bool} {vs : List V} {ds : List D} (t : RVs mg m H vs ds) (l1 : vs.length ≤ LIM) (h : ∀ m1 H1, Ext0 m H m1 H1 → SqB K H1 a vs k) : Wk mg T (IteB K a k) m H (enumL ds) where
  len := by
    unfold enumL
    rw [List.length_zipWith, List.length_range, ← t.length]
    omega
  step := fun i d m1 st1 H1 e R hd => by
    unfold enumL at hd
    rw [List.getElem?_zipWith] at hd
    cases e1 : ds[i]? with
    | none => rw [e1] at hd; split at hd <;> simp_all
    | some dx =>
      have hlt : i < ds.length := (List.getElem?_eq_some_iff.mp e1).1
      rw [e1, List.getElem?_range hlt] at hd
      cases hd
      obtain ⟨x, h1, h2⟩ := t.get e1
      refine ⟨⟨vs, x, h m1 H1 e, h1⟩, fun z H2 q => ?_⟩
      obtain ⟨p, x', rfl, hp, rfl, q1⟩ := q
      obtain rfl : x = x' := Option.some.inj (h1.symm.trans (q1 vs (h m1 H1 e)))
      exact pair_new R hp (.int _) (h2.ext0 e)
  stop := fun m1 H1 e => by
    have z1 := t.length
    unfold enumL
    rw [List.length_zipWith, List.length_range]
    exact ⟨vs, h m1 H1 e, by omega⟩
end

section
variable {X : Cx} {mg : MG} {T : List (Addr × Str)} {E : XK} {tg : Expr}
def iSeq (K : PySem.W.Frag) (tl : TE) : TI := fun σ H R => tl σ H fun x H1 => ∃ a xs k, x = .ref a ∧ SqB K H1 a xs k ∧ R (ItB K a k) H1
theorem pi_seq {l : Expr} {tl : TE} (hl : PE X l tl) : PI X tg l (iSeq X.K tl) := by
  refine ⟨fun pins s σ H R I h => ?_⟩
  refine thn (hl.run pins s σ H _ I h) fun v s1 ⟨x, H1, I1, r1, q1⟩ => ?_
  obtain ⟨a, xs, k, e, hq, q⟩ := q1
  subst e
  cases r1
  have fin : ∀ {k : Bool}, R (ItB X.K a k) H1 → ∀ tn, Turn X.prog X.w X.K tg (ItB X.K a k) [s1.heap.objs.size] s1.heap.objs.size tn → ∀ o, tn 0 (s1.heap.push o) → PIE X pins σ tg R (.ref s1.heap.objs.size) { s1 with heap := s1.heap.push o } := fun q tn t o st =>
    ⟨s1.heap.objs.size, [s1.heap.objs.size], tn, _, H1, rfl, I1.kept (t' := s1.toks) fun b o e => Heap.get?_push_of_some _ e, t, st, fun b hb => by
      have e : b = s1.heap.objs.size := by simpa using hb
      subst e
      exact I1.fpOk (Nat.le_refl _) (I1.hok.fresh (Nat.le_refl _)), q⟩
  cases k with
  | false =>
    obtain ⟨its, rv, p, hz⟩ := I1.list hq
    exact wpAny_pyIter_list p.isList (fin (k := false) q _ (turn_list a _) _ ⟨_, Heap.get?_push_size _ rfl, rfl, rfl⟩)
  | true =>
    obtain ⟨its, rv, p, hz⟩ := I1.tuple hq
    exact wpAny_pyIter_tuple (show s1.heap.IsTuple a its.toArray from p) (fin (k := true) q _ (turn_tuple a _) _ ⟨_, Heap.get?_push_size _ rfl, rfl, rfl⟩)
variable {ra rb : Rho → Sto → Res D}
def iAny (K : PySem.W.Frag) (tl : TE) : TI := fun σ H R => tl σ H fun x H1 => (∃ a xs k, x = .ref a ∧ SqB K H1 a xs k ∧ R (ItB K a k) H1) ∨ ∃ z, x = .str z ∧ R (Its z) H1
theorem pi_any {l : Expr} {tl : TE} (hl : PE X l tl) : PI X tg l (iAny X.K tl) := by
  refine ⟨fun pins s σ H R I h => ?_⟩
  refine thn (hl.run pins s σ H _ I h) fun v s1 ⟨x, H1, I1, r1, q1⟩ => ?_
  rcases q1 with ⟨a, xs, k, e, hq, q⟩ | ⟨z, e, q⟩
  · subst e
    cases r1
    have fin : ∀ {k : Bool}, R (ItB X.K a k) H1 → ∀ tn, Turn X.prog X.w X.K tg (ItB X.K a k) [s1.heap.objs.size] s1.heap.objs.size tn → ∀ o, tn 0 (s1.heap.push o) → PIE X pins σ tg R (.ref s1.heap.objs.size) { s1 with heap := s1.heap.push o } := fun q tn t o st =>
      ⟨s1.heap.objs.size, [s1.heap.objs.size], tn, _, H1, rfl, I1.kept (t' := s1.toks) fun b o e => Heap.get?_push_of_some _ e, t, st, fun b hb => by
        have e : b = s1.heap.objs.size := by simpa using hb
        subst e
        exact I1.fpOk (Nat.le_refl _) (I1.hok.fresh (Nat.le_refl _)), q⟩
    cases k with
    | false =>
      obtain ⟨its, rv, p, hz⟩ := I1.list hq
      exact wpAny_pyIter_list p.isList (fin (k := false) q _ (turn_list a _) _ ⟨_, Heap.get?_push_size _ rfl, rfl, rfl⟩)
    | true =>
      obtain ⟨its, rv, p, hz⟩ := I1.tuple hq
      exact wpAny_pyIter_tuple (show s1.heap.IsTuple a its.toArray from p) (fin (k := true) q _ (turn_tuple a _) _ ⟨_, Heap.get?_push_size _ rfl, rfl, rfl⟩)
  · subst e
    obtain ⟨t, rfl⟩ := r1
    cases ha : z.cps.all (· < 128)
    · exact wpAny_pyIter_wide ha (pi_one (tk := s1.toks) I1 _ (turn_str _ z t "str_iterator" (.inr rfl)) ⟨_, Heap.get?_push_size _ rfl, rfl, rfl⟩ q)
    · exact wpAny_pyIter_ascii ha (pi_one (tk := s1.toks) I1 _ (turn_str _ z t "str_ascii_iterator" (.inl rfl)) ⟨_, Heap.get?_push_size _ rfl, rfl, rfl⟩ q)
theorem wk_str {z : Str} {m : MA} {H : Hp} (hl : z.length ≤ LIM) : Wk mg T (Its z) m H (chars z) where
  len := by
    unfold chars
    rw [List.length_map, Array.length_toList]
    exact hl
  step := fun i d m1 st1 H1 e R hd => by
    unfold chars at hd
    rw [List.getElem?_map, Option.map_eq_some_iff] at hd
    obtain ⟨c, hc, rfl⟩ := hd
    have hc' : z.cps[i]? = some c := by simpa using hc
    refine ⟨(Array.getElem?_eq_some_iff.mp hc').1, fun y H2 q => ?_⟩
    obtain ⟨rfl, c', hc2, rfl⟩ := q
    obtain rfl : c = c' := Option.some.inj (hc'.symm.trans hc2)
    exact ⟨R, Ext.refl _ _, .str _⟩
  stop := fun m1 H1 e => by
    unfold chars
    show z.cps.size ≤ _
    rw [List.length_map, Array.length_toList]
    exact Nat.le_refl _
theorem pi_val {e : Expr} (he : PE X e (tX mg T E ra)) : PI X tg e (tI mg T E fun ρ st => (ra ρ st).bind fun x s1 => .lift (asIt x) s1) := by
  refine PI.mono (pi_any he) fun σ H R h => ?_
  obtain ⟨m, ρ, st, Re, w⟩ := h
  refine ⟨m, ρ, st, Re, w.bind.imp fun x m1 s1 H1 R1 E1 w1 v rv => ?_⟩
  obtain ⟨ds, e, w1⟩ := w1.lift
  have sq : asSeq x = some ds → (∃ a xs k, v = .ref a ∧ SqB X.K H1 a xs k ∧ R (ItB X.K a k) H1) ∨ ∃ z, v = .str z ∧ R (Its z) H1 := fun e => by
    obtain ⟨a, vs, k, rfl, t, l, hq⟩ := rv_sq (K := X.K) rv e
    exact .inl ⟨a, vs, k, rfl, hq m1 H1 (Ext0.refl _ _), w1.now R1 _ (wk_sq t l hq)⟩
  unfold asIt at e
  split at e
  · cases rv
    exact sq e
  · cases rv
    exact sq e
  · split at e
    · rename_i hl
      cases e
      cases rv
      exact .inr ⟨_, rfl, w1.now R1 _ (wk_str hl)⟩
    · cases e
  · cases e
theorem pa_one {e : Expr} (he : PE X e (tX mg T E ra)) (hs : starEach [e] X.env = (false, eval e X.env) :: starEach [] X.env) : PA X [e] (tCons (tX mg T E ra) tNil) := pa_cons he pa_nil hs
theorem pi_rng1 {a : Expr} {p pos : Pos} (hg : Gl X "range") (hm : X.mg "range" = none) (he : PE X a (tX mg T E ra)) (hs : starEach [a] X.env = (false, eval a X.env) :: starEach [] X.env) :
    PI X tg (.Call (.Name "range" p) [a] [] pos) (tI mg T E fun ρ st => (ra ρ st).bind fun x s1 => match x with | .int j => if rngOk 0 j then .ok (rngL 0 j) s1 else .bad | _ => .bad) := by
  refine PI.mono (pi_range1 hg hm (pa_one he hs) hs) fun σ H R h => ?_
  obtain ⟨m, ρ, st, Re, w⟩ := h
  refine ⟨m, ρ, st, Re, w.bind.imp fun x m1 s1 H1 R1 E1 w1 v rv => ?_⟩
  split at w1
  · rename_i j
    split at w1
    · rename_i hr
      cases rv
      have h0 := hr
      unfold rngOk at h0
      simp only [Bool.and_eq_true, decide_eq_true_eq] at h0
      have w2 := wk_range (mg := mg) (T := T) (m := m1) (H := H1) hr
      rw [Int.sub_zero] at w2
      exact ⟨j, rfl, h0.2.1.2, h0.2.2, w1.now R1 _ w2⟩
    · exact w1.elim
  · exact w1.elim
theorem pi_rng2 {a b : Expr} {p pos : Pos} (hg : Gl X "range") (hm : X.mg "range" = none) (he : PE X a (tX mg T E ra)) (hf : PE X b (tX mg T E rb)) (hs : starEach [a, b] X.env = [(false, eval a X.env), (false, eval b X.env)]) (hs2 : starEach [b] X.env = [(false, eval b X.env)]) :
    PI X tg (.Call (.Name "range" p) [a, b] [] pos) (tI mg T E fun ρ st => (ra ρ st).bind fun x s1 => (rb ρ s1).bind fun y s2 => match x, y with | .int i, .int j => if rngOk i j then .ok (rngL i j) s2 else .bad | _, _ => .bad) := by
  refine PI.mono (pi_range2 hg hm (pa_cons he (pa_cons hf pa_nil hs2) (by rw [hs, hs2])) hs hs2) fun σ H R h => ?_
  obtain ⟨m, ρ, st, Re, w⟩ := h
  refine ⟨m, ρ, st, Re, w.bind.imp fun x m1 s1 H1 R1 E1 w1 v rv => ⟨m1, ρ, s1, Re.ext R1 E1, w1.bind.imp fun y m2 s2 H2 R2 E2 w2 u ru => ?_⟩⟩
  split at w2
  · rename_i i j
    split at w2
    · rename_i hr
      cases rv
      cases ru
      have h0 := hr
      unfold rngOk at h0
      simp only [Bool.and_eq_true, decide_eq_true_eq] at h0
      exact ⟨i, j, rfl, ⟨h0.2.1.1.1, h0.2.1.1.2, h0.2.1.2, h0.2.2⟩, w2.now R2 _ (wk_range hr)⟩
    · exact w2.elim
  · exact w2.elim
theorem pi_enum1 {a : Expr} {elts : List Expr} {kk : Nat} {tpos p pos : Pos} (hg : Gl X "enumerate") (hm : X.mg "enumerate" = none) (he : PE X a (tX mg T E ra)) (hs : starEach [a] X.env = [(false, eval a X.env)]) :
    PI X (.Tuple elts kk tpos) (.Call (.Name "enumerate" p) [a] [] pos) (tI mg T E fun ρ st => (ra ρ st).bind fun x s1 => match asSeq x with | some xs => .ok (enumL xs) s1 | none => .bad) := by
  refine PI.mono (pi_enumB hg hm (pa_one he hs) hs) fun σ H R h => ?_
  obtain ⟨m, ρ, st, Re, w⟩ := h
  refine ⟨m, ρ, st, Re, w.bind.imp fun x m1 s1 H1 R1 E1 w1 v rv => ?_⟩
  split at w1
  · rename_i xs e1
    obtain ⟨a, vs, k, rfl, t, l, hq⟩ := rv_sq (K := X.K) rv e1
    exact ⟨a, vs, k, rfl, hq m1 H1 (Ext0.refl _ _), w1.now R1 _ (wk_enum t l hq)⟩
  · exact w1.elim
theorem pi_zip1 {a b : Expr} {elts : List Expr} {kk : Nat} {tpos p pos : Pos} (hg : Gl X "zip") (hm : X.mg "zip" = none) (he : PE X a (tX mg T E ra)) (hf : PE X b (tX mg T E rb)) (hs : starEach [a, b] X.env = (false, eval a X.env) :: starEach [b] X.env) (hs2 : starEach [b] X.env = [(false, eval b X.env)]) :
    PI X (.Tuple elts kk tpos) (.Call (.Name "zip" p) [a, b] [] pos) (tI mg T E fun ρ st => (ra ρ st).bind fun x s1 => (rb ρ s1).bind fun y s2 => match asSeq x, asSeq y with | some xs, some ys => .ok (zipL xs ys) s2 | _, _ => .bad) := by
  refine PI.mono (pi_zipB hg hm (pa_cons he (pa_cons hf pa_nil hs2) hs) hs (by rw [hs2]; rfl)) fun σ H R h => ?_
  obtain ⟨m, ρ, st, Re, w⟩ := h
  refine ⟨m, ρ, st, Re, w.bind.imp fun x m1 s1 H1 R1 E1 w1 v rv => ⟨m1, ρ, s1, Re.ext R1 E1, w1.bind.imp fun y m2 s2 H2 R2 E2 w2 u ru => ?_⟩⟩
  split at w2
  · rename_i xs ys e1 e2
    obtain ⟨a, vs, k, rfl, t, l, hq⟩ := rv_sq (K := X.K) (rv.ext E2) e1
    obtain ⟨b, ws, k2, rfl, t2, l2, hq2⟩ := rv_sq (K := X.K) ru e2
    exact ⟨a, b, vs, ws, k, k2, rfl, hq m2 H2 (Ext0.refl _ _), hq2 m2 H2 (Ext0.refl _ _), w2.now R2 _ (wk_zip t t2 l hq hq2 fun _ _ _ _ _ => trivial)⟩
  · exact w2.elim
end

def Same (is : List Nat) (σ σ' : L2.St) : Prop := σ'.length = σ.length ∧ ∀ j, j ∉ is → σ'[j]? = σ[j]?
theorem Same.refl {is : List Nat} {σ : L2.St} : Same is σ σ := ⟨rfl, fun _ _ => rfl⟩
theorem Same.set {is : List Nat} {σ σ' : L2.St} {i : Nat} {x : Option V} (s : Same is (σ.set i x) σ') : Same (i :: is) σ σ' := by
  refine ⟨s.1.trans (List.length_set ..), fun j hj => ?_⟩
  rw [s.2 j fun h => hj (List.mem_cons_of_mem _ h), List.getElem?_set_ne fun e => hj (by rw [e]; exact List.mem_cons_self ..)]
theorem wipe_get {σ : L2.St} {j : Nat} : ∀ {vs : List Nat}, (wipe σ vs)[j]? = if j ∈ vs ∧ j < σ.length then some none else σ[j]?
  | [] => by simp [wipe]
  | v :: vs => by
    unfold wipe
    by_cases hv : v = j
    · subst hv
      by_cases hl : v < σ.length
      · rw [List.getElem?_set_self (by rw [wipe_length]; exact hl), if_pos ⟨List.mem_cons_self .., hl⟩]
      · rw [List.getElem?_eq_none (by rw [List.length_set, wipe_length]; omega), if_neg fun h => hl h.2, List.getElem?_eq_none (by omega)]
    · rw [List.getElem?_set_ne hv, wipe_get]
      have : (j ∈ v :: vs) ↔ j ∈ vs := ⟨fun h => (List.mem_cons.mp h).elim (fun e => absurd e.symm hv) id, List.mem_cons_of_mem _⟩
      simp only [this]
theorem same_wipe {is vs : List Nat} {σ σ' : L2.St} (s : Same is (wipe σ vs) σ') (h : ∀ i ∈ is, i ∈ vs) : wipe σ' vs = wipe σ vs := by
  apply List.ext_getElem?
  intro j
  have hl : σ'.length = σ.length := s.1.trans (wipe_length σ vs)
  rw [wipe_get, wipe_get, hl]
  by_cases hj : j ∈ vs ∧ j < σ.length
  · rw [if_pos hj, if_pos hj]
  · rw [if_neg hj, if_neg hj]
    by_cases hi : j ∈ is
    · have : ¬ j < σ.length := fun z => hj ⟨h j hi, z⟩
      rw [List.getElem?_eq_none (by omega), List.getElem?_eq_none (by omega)]
    · rw [s.2 j hi, wipe_get, if_neg hj]
def tgs (N : List Str) : List Expr → List Nat
  | [] => []
  | .Name x _ :: es => (match slot N x with | some i => [i] | none => []) ++ tgs N es
  | _ :: es => tgs N es
def tgS (N : List Str) : Expr → List Nat
  | .Tuple es _ _ => tgs N es
  | e => tgs N [e]
def locB (sc : Scope) (x : Str) : Bool := match sc.names.lookup x with
  | some .local => true
  | some .cell => true
  | _ => false
def ckTs (sc : Scope) : List Expr → Bool
  | [] => true
  | .Name x _ :: es => locB sc x && ckTs sc es
  | _ :: _ => false
def ckT (sc : Scope) : Expr → Bool
  | .Tuple es _ _ => ckTs sc es
  | e => ckTs sc [e]
/-- what a frame's rules ask -/
structure Fr (X : Cx) (N : List Str) (sc lsc : Scope) : Prop where
  calm : X.calm = true
  nd : N.Nodup
  hN : X.N = N
  hsc : X.env.scope = sc
  loc : ∀ x, locB lsc x = true → Loc X.env.scope x ∧ (X.fn x = true ∨ X.env.scope.names.lookup x = some .local)
  units : X.A.units + 64 < cLine
def gT (mg : MG) (N : List Str) (tg : Expr) : TG := fun v σ H Q => ∃ m ρ d ρ1, RE mg m H ρ σ ∧ RV mg m H v d ∧ bindT N tg d ρ = some ρ1 ∧ ∀ σ', RE mg m H ρ1 σ' → Same (tgS N tg) σ σ' → Q σ' H
def gTp (mg : MG) (P : D → Prop) (N : List Str) (tg : Expr) : TG := fun v σ H Q => ∃ m ρ d ρ1, RE mg m H ρ σ ∧ RV mg m H v d ∧ P d ∧ bindT N tg d ρ = some ρ1 ∧ ∀ σ', RE mg m H ρ1 σ' → Same (tgS N tg) σ σ' → Q σ' H
def gTs (mg : MG) (N : List Str) (ts : List Expr) : TGs := fun vs σ H Q => ∃ m ρ ds ρ1, RE mg m H ρ σ ∧ RVs mg m H vs ds ∧ bindN N ts ds ρ = some ρ1 ∧ ∀ σ', RE mg m H ρ1 σ' → Same (tgs N ts) σ σ' → Q σ' H
theorem PG.mono {X : Cx} {e : Expr} {t t' : TG} (h : PG X e t) (i : ∀ v σ H Q, t' v σ H Q → t v σ H Q) : PG X e t' := ⟨fun pins s σ H v u Q I r w => h.run pins s σ H v u Q I r (i v σ H Q w)⟩
theorem PGs.mono {X : Cx} {e : List Expr} {t t' : TGs} (h : PGs X e t) (i : ∀ v σ H Q, t' v σ H Q → t v σ H Q) : PGs X e t' := ⟨fun pins s σ H v u Q I r w => h.run pins s σ H v u Q I r (i v σ H Q w)⟩
theorem PG.or {X : Cx} {e : Expr} {t t' : TG} (h : PG X e t) (h' : PG X e t') : PG X e (fun v σ H Q => t v σ H Q ∨ t' v σ H Q) := ⟨fun pins s σ H v u Q I r w => w.elim (h.run pins s σ H v u Q I r) (h'.run pins s σ H v u Q I r)⟩
section
variable {X : Cx} {mg : MG} {N : List Str} {sc lsc : Scope}
theorem pg_nm {x : Str} {pos : Pos} {i : Nat} (F : Fr X N sc lsc) (h : locB lsc x = true) (e : slot N x = some i) : PG X (.Name x pos) (gName i) :=
  let ⟨h1, h2⟩ := F.loc x h
  pg_name (by rw [F.hN]; exact F.nd) (by rw [F.hN]; exact slot_at e) h1 h2
theorem pgs_ts (F : Fr X N sc lsc) : ∀ (ts : List Expr), ckTs lsc ts = true → PGs X ts (gTs mg N ts) ∧ (assignEach ts X.env).length = ts.length ∧ (assignEach ts X.env).findIdx? (·.1) = none := by
  intro ts
  induction ts with
  | nil =>
    intro _
    refine ⟨PGs.mono pgs_nil fun vs σ H Q h => ?_, rfl, rfl⟩
    obtain ⟨m, ρ, ds, ρ1, re, rv, hb, q⟩ := h
    cases ds with
    | nil =>
      cases rv
      cases hb
      exact ⟨rfl, q σ re Same.refl⟩
    | cons d ds => cases hb
  | cons e ts ih =>
    intro h
    cases e with
    | Name x p =>
      have h' : (locB lsc x && ckTs lsc ts) = true := h
      rw [Bool.and_eq_true] at h'
      obtain ⟨ih, i1, i2⟩ := ih h'.2
      refine ⟨?_, congrArg (· + 1) i1, ?_⟩
      · cases e : slot N x with
        | none =>
          refine ⟨fun pins s σ H vs us Q I r h => ?_⟩
          obtain ⟨m, ρ, ds, ρ1, re, rv, hb, q⟩ := h
          cases ds with
          | nil => cases hb
          | cons d ds => simp only [bindN, e] at hb; cases hb
        | some i =>
          refine PGs.mono (pgs_cons (pg_nm F h'.1 e) ih rfl) fun vs σ H Q h => ?_
          obtain ⟨m, ρ, ds, ρ1, re, rv, hb, q⟩ := h
          cases rv with
          | nil => cases hb
          | cons a t =>
            simp only [bindN, e] at hb
            refine ⟨_, _, rfl, m, _, _, ρ1, re.set a, t, hb, fun σ' r' s' => q σ' r' ?_⟩
            have := s'.set
            simpa [tgs, e] using this
      · show List.findIdx? _ ((false, _) :: assignEach ts X.env) = none
        rw [List.findIdx?_cons]
        simp only [Bool.false_eq_true, if_false]
        rw [i2]
        rfl
    | _ => exact Bool.noConfusion (show false = true from h)
theorem pg_t (F : Fr X N sc lsc) {tg : Expr} (h : ckT lsc tg = true) : PG X tg (gT mg N tg) := by
  cases tg with
  | Name x p =>
    have h' : (locB lsc x && true) = true := h
    rw [Bool.and_true] at h'
    cases e : slot N x with
    | none =>
      refine ⟨fun pins s σ H v u Q I r h => ?_⟩
      obtain ⟨m, ρ, d, ρ1, re, rv, hb, q⟩ := h
      simp only [bindT, e] at hb
      cases hb
    | some i =>
      refine PG.mono (pg_nm F h' e) fun v σ H Q h => ?_
      obtain ⟨m, ρ, d, ρ1, re, rv, hb, q⟩ := h
      simp only [bindT, e, Option.map_some, Option.some.injEq] at hb
      subst hb
      refine q _ (re.set rv) ?_
      have := (Same.refl (is := []) (σ := σ.set i (some v))).set
      simpa [tgS, tgs, e] using this
  | Tuple es k p =>
    obtain ⟨g1, g2, g3⟩ := pgs_ts F es h
    refine PG.mono (PG.or (pg_tup F.calm g1 g2 g3) (pg_lst F.calm g1 g2 g3)) fun v σ H Q h => ?_
    obtain ⟨m, ρ, d, ρ1, re, rv, hb, q⟩ := h
    have len : ∀ {es : List Expr} {ds : List D} {ρ : Rho}, bindN N es ds ρ = some ρ1 → ds.length = es.length := by
      intro es
      induction es with
      | nil => intro ds ρ h; cases ds with
        | nil => rfl
        | cons d ds => cases h
      | cons e es ih => intro ds ρ h; cases ds with
        | nil => cases e <;> cases h
        | cons d ds => cases e with
          | Name x p =>
            cases e2 : slot N x with
            | none => simp only [bindN, e2] at h; cases h
            | some i =>
              simp only [bindN, e2] at h
              exact congrArg (· + 1) (ih h)
          | _ => cases h
    cases rv with
    | tup h1 n1 l1 t1 => exact .inl ⟨_, _, rfl, .inl h1, by rw [t1.length]; exact len hb, m, ρ, _, ρ1, re, t1, hb, q⟩
    | lst h1 n1 l1 t1 => exact .inr ⟨_, _, rfl, .inl h1, by rw [t1.length]; exact len hb, m, ρ, _, ρ1, re, t1, hb, q⟩
    | _ => cases hb
  | _ => exact Bool.noConfusion (show false = true from h)
end
end MP
set_option Elab.async false
set_option linter.all false
set_option maxRecDepth 100000
namespace MP
open PySem PySem.Spec PyProof.Rows L2 LamX

abbrev E0 : XK := fun _ _ _ => False
def compF (N : List Str) (own : List Nat) (tg : Expr) (rif : Rho → Sto → Res Bool) (re : Rho → Sto → Res D) (ρ : Rho) (x : D) (s : Sto) : Res (List D) := match bindT N tg x (wip ρ own) with
  | none => .bad
  | some ρ1 => (rif ρ1 s).bind fun b s2 => match b with
    | false => .ok [] s2
    | true => (re ρ1 s2).bind fun d s3 => .ok [d] s3
theorem compGo_cons {x : D} {xs zs : List D} {f : D → Sto → Res (List D)} {st s4 : Sto} (h : compGo (x :: xs) f st = .ok zs s4) : ∃ ys s1 r, f x st = .ok ys s1 ∧ compGo xs f s1 = .ok r s4 ∧ zs = ys ++ r := by
  unfold compGo at h
  split at h
  · rename_i ys s1 e
    split at h
    · rename_i r s2 e2
      cases h
      exact ⟨ys, s1, r, e, e2, rfl⟩
    · cases h
  · cases h
theorem bind_ok_inv {α β : Type} {r : Res α} {f : α → Sto → Res β} {b : β} {s : Sto} (h : r.bind f = .ok b s) : ∃ a s1, r = .ok a s1 ∧ f a s1 = .ok b s := by
  cases r with
  | ok a s1 => exact ⟨a, s1, rfl, h⟩
  | exc c s1 => cases h
  | bad => cases h
section
variable {X : Cx} {mg : MG} {T : List (Addr × Str)} {E : XK} {N : List Str}
/-- the state of a block: the list at L so far, what is seen else -/
structure BlkAt (mg : MG) (T : List (Addr × Str)) (L : Addr) (m1 : MA) (H1 : Hp) (m : MA) (st : Sto) (H : Hp) (acc : List V) (ads : List D) : Prop where
  rs : RS mg T m st H
  hid : m.hid = L :: m1.hid
  ext : Ext0 m1 H1 m H
  hk : ∀ a ∈ m1.hid, H a = H1 a
  at_ : H L = some (.lst acc)
  rv : RVs mg m H acc ads
theorem BlkAt.go {mg : MG} {L : Addr} {m1 m m' : MA} {H1 H H' : Hp} {st st' : Sto} {acc : List V} {ads : List D} (b : BlkAt mg T L m1 H1 m st H acc ads) (R : RS mg T m' st' H') (e : Ext m H m' H') : BlkAt mg T L m1 H1 m' st' H' acc ads :=
  ⟨R, e.hid.trans b.hid, b.ext.trans e.toExt0, fun a h => (e.hk a (by rw [b.hid]; exact List.mem_cons_of_mem _ h)).trans (b.hk a h), (e.hk L (by rw [b.hid]; exact List.mem_cons_self ..)).trans b.at_, b.rv.ext e⟩
theorem BlkAt.put {mg : MG} {L : Addr} {m1 m : MA} {H1 H : Hp} {st : Sto} {acc : List V} {ads : List D} {y : V} {d : D} (b : BlkAt mg T L m1 H1 m st H acc ads) (hL : L ∉ m1.hid) (r : RV mg m H y d) : BlkAt mg T L m1 H1 m st (upd H L (.lst (acc ++ [y]))) (acc ++ [y]) (ads ++ [d]) := by
  obtain ⟨w1, w2⟩ := b.rs.fill (vs' := acc ++ [y]) (show L ∈ m.hid by rw [b.hid]; exact List.mem_cons_self ..) b.at_
  exact ⟨w1, b.hid, b.ext.trans w2, fun a h => by rw [upd_ne fun z => hL (by rw [← z]; exact h)]; exact b.hk a h, upd_same, (b.rv.append (.cons r .nil)).ext0 w2⟩
theorem BlkAt.start {mg : MG} {L : Addr} {m1 : MA} {H1 : Hp} {st : Sto} (R : RS mg T m1 st H1) (hL : H1 L = none) : BlkAt mg T L m1 H1 ⟨m1.l, L :: m1.hid⟩ st (upd H1 L (.lst [])) [] [] := by
  obtain ⟨w1, w2⟩ := R.hide (vs := []) rfl hL
  exact ⟨w1, rfl, w2, fun a h => by
    obtain ⟨⟨_, q⟩, _⟩ := R.hid a h
    exact upd_ne (ne_of_none q hL), upd_same, .nil⟩
theorem BlkAt.fin {mg : MG} {L : Addr} {m1 m : MA} {H1 H : Hp} {st st1 : Sto} {acc : List V} {ads : List D} (b : BlkAt mg T L m1 H1 m st H acc ads) (R1 : RS mg T m1 st1 H1) (hL : H1 L = none) (hl : ads.length ≤ LIM) :
    RS mg T ⟨m.l, m1.hid⟩ st H ∧ Ext m1 H1 ⟨m.l, m1.hid⟩ H ∧ RV mg ⟨m.l, m1.hid⟩ H (.ref L) (.list ads) := by
  obtain ⟨w1, w2⟩ := b.rs.show_ b.hid
  refine ⟨w1, ⟨b.ext.trans w2, rfl, b.hk⟩, .lst (.inl b.at_) (fun l => ?_) (by rw [b.rv.length]; exact hl) (b.rv.ext0 w2)⟩
  rcases l with ⟨n, l⟩ | l
  · exact (b.rs.hid L (by rw [b.hid]; exact List.mem_cons_self ..)).2 n l
  · obtain ⟨⟨_, q⟩, _⟩ := R1.hid L l
    rw [hL] at q
    cases q
theorem hid_ne {mg : MG} {L : Addr} {m1 : MA} {H1 : Hp} {st1 : Sto} (R1 : RS mg T m1 st1 H1) (hL : H1 L = none) : L ∉ m1.hid := fun l => by
  obtain ⟨⟨_, q⟩, _⟩ := R1.hid L l
  rw [hL] at q
  cases q
/-- [elt for tg in it if ..] -/
theorem tlc_of {tg : Expr} {own : List Nat} {ri : Rho → Sto → Res (List D)} {rif : Rho → Sto → Res Bool} {re : Rho → Sto → Res D} {σ : L2.St} {H : Hp} {Q : VK} (P : D → Prop) (hP : ∀ ρ st xs s1, ri ρ st = .ok xs s1 → ∀ x ∈ xs, P x) (hsub : ∀ i ∈ tgS N tg, i ∈ own)
    (h : tX mg T E (fun ρ st => (ri ρ st).bind fun xs s1 => (compGo xs (compF N own tg rif re ρ) s1).bind fun ds s4 => .ok (.list ds) s4) σ H Q) :
    tLc (tI mg T E ri) (gTp mg P N tg) (tT mg T E0 rif) (tX mg T E0 re) own σ H Q := by
  obtain ⟨m, ρ, st, Re, w⟩ := h
  refine ⟨m, ρ, st, Re, ?_⟩
  cases er : ri ρ st with
  | bad => dsimp only at w; rw [er] at w; exact w.elim
  | exc c s => dsimp only at w; rw [er] at w; exact w
  | ok xs s1 =>
  dsimp only at w
  rw [er] at w
  have hPx := hP ρ st xs s1 er
  intro m1 H1 R1 E1 J wk L hL
  have w1 : Wok mg T m1 H1 ((compGo xs (compF N own tg rif re ρ) s1).bind fun ds s4 => .ok (.list ds) s4) (KV mg Q) E := Wok.later w E1
  have hLn := hid_ne R1 hL
  cases ec : compGo xs (compF N own tg rif re ρ) s1 with
  | exc c s => 
    exfalso
    cases xs with
    | nil => cases ec
    | cons x xs =>
      unfold compGo at ec
      split at ec
      · split at ec <;> cases ec
      · cases ec
  | bad => rw [ec] at w1; exact w1.elim
  | ok ds s4 =>
    rw [ec] at w1
    have hlen : ∀ {xs ds : List D} {s1 : Sto}, compGo xs (compF N own tg rif re ρ) s1 = .ok ds s4 → ds.length ≤ xs.length := by
      intro xs
      induction xs with
      | nil => intro ds s1 h; cases h; exact Nat.le_refl _
      | cons x xs ih =>
        intro ds s1 h
        obtain ⟨ys, s2, r, h1, h2, rfl⟩ := compGo_cons h
        have := ih h2
        have : ys.length ≤ 1 := by
          unfold compF at h1
          split at h1
          · cases h1
          · obtain ⟨b, s3, _, h1⟩ := bind_ok_inv h1
            cases b with
            | false => cases h1; exact Nat.zero_le _
            | true =>
              obtain ⟨d, s5, _, h1⟩ := bind_ok_inv h1
              cases h1
              exact Nat.le_refl _
        rw [List.length_append, List.length_cons]
        omega
    have hds := hlen ec
    refine ⟨fun i n H => n + i = xs.length ∧ ∃ m' st' acc ads rest, BlkAt mg T L m1 H1 m' st' H acc ads ∧ compGo (xs.drop i) (compF N own tg rif re ρ) st' = .ok rest s4 ∧ ds = ads ++ rest, ⟨xs.length, rfl, _, s1, [], [], ds, BlkAt.start R1 hL, ec, rfl⟩, ?_⟩
    rintro i n H2 ⟨hn, m', st', acc, ads, rest, B, hg, hd⟩
    by_cases hi : i < xs.length
    · refine .inr ?_
      have hxi : xs[i]? = some xs[i] := List.getElem?_eq_getElem hi
      rw [List.drop_eq_getElem_cons hi] at hg
      obtain ⟨ys, s2, r, h1, h2, h3⟩ := compGo_cons hg
      obtain ⟨k1, k2⟩ := wk.step i _ m' st' H2 B.ext B.rs hxi
      refine ⟨k1, fun H => ∃ m' st' acc ads rest, BlkAt mg T L m1 H1 m' st' H acc ads ∧ compGo (xs.drop (i + 1)) (compF N own tg rif re ρ) st' = .ok rest s4 ∧ ds = ads ++ rest, fun H' hN => ⟨n - 1, by omega, by omega, hN⟩, fun v H3 hy => ?_⟩
      obtain ⟨R3, E3, rv⟩ := k2 v H3 hy
      have B3 := B.go R3 E3
      unfold compF at h1
      cases hb : bindT N tg xs[i] (wip ρ own) with
      | none => rw [hb] at h1; cases h1
      | some ρ1 =>
        rw [hb] at h1
        obtain ⟨b, s3, e1, h1⟩ := bind_ok_inv h1
        refine ⟨m', wip ρ own, xs[i], ρ1, ((Re.re.ext E1).ext0 B3.ext).wipe own, rv, hPx _ (List.getElem_mem hi), hb, fun σ2 re2 sm => ⟨same_wipe sm hsub, m', ρ1, st', ⟨R3, re2⟩, ?_⟩⟩
        rw [e1]
        intro m4 H4 R4 E4
        cases b with
        | false =>
          rw [if_neg Bool.false_ne_true]
          cases h1
          exact ⟨m4, _, acc, ads, r, B3.go R4 E4, h2, by rw [hd, h3]; rfl⟩
        | true =>
          rw [if_pos rfl]
          obtain ⟨d, s5, e2, h1⟩ := bind_ok_inv h1
          cases h1
          refine ⟨m4, ρ1, s3, ⟨R4, re2.ext E4⟩, ?_⟩
          rw [e2]
          intro m5 H5 R5 E5 y ry
          have B5 := (B3.go R4 E4).go R5 E5
          have hle : acc.length < sizeLine := by
            have := B5.rv.length
            have hw := wk.len
            have e3 : ds.length = ads.length + rest.length := by rw [hd, List.length_append]
            have e4 : rest.length = 1 + r.length := by rw [h3, List.length_append]; rfl
            rw [← lim_eq]
            omega
          exact ⟨acc, B5.at_, hle, m5, s2, _, _, r, B5.put hLn ry, h2, by rw [hd, h3, List.append_assoc]⟩
    · refine .inl ?_
      have ei : i = xs.length := by omega
      subst ei
      rw [List.drop_length] at hg
      cases hg
      rw [List.append_nil] at hd
      subst hd
      refine ⟨wk.stop m' H2 B.ext, ?_⟩
      obtain ⟨f1, f2, f3⟩ := B.fin R1 hL (Nat.le_trans hds wk.len)
      exact w1 _ _ f1 f2 _ f3
end
end MP
set_option Elab.async false
set_option linter.all false
set_option maxRecDepth 100000
namespace MP
open PySem PySem.Spec PyProof.Rows L2 LamX

def noStar : Expr → Bool
  | .Starred _ _ => false
  | _ => true
theorem star_cons {e : Expr} {es : List Expr} {env : Env} (h : noStar e = true) : starEach (e :: es) env = (false, eval e env) :: starEach es env := by
  cases e <;> first | rfl | (exact Bool.noConfusion (show false = true from h))
theorem star_any {pos : Pos} {env : Env} : ∀ {es : List Expr}, es.all noStar = true → (backTo pos (starEach es env)).any (·.1) = false
  | [], _ => rfl
  | e :: es, h => by
    simp only [List.all_cons, Bool.and_eq_true] at h
    rw [star_cons h.1]
    have := star_any (pos := pos) (env := env) h.2
    simpa [backTo] using this
section
variable {X : Cx} {mg : MG} {T : List (Addr × Str)} {E : XK} {ra rb rc : Rho → Sto → Res D} {rt : Rho → Sto → Res Bool} {rl : Rho → Sto → Res (List D)} {e : Expr} {es : List Expr} {pos : Pos}
theorem pa_nil1 : PA X [] (tL mg T E fun _ st => .ok [] st) := PA.mono pa_nil fun σ H Q ⟨m, ρ, st, R, w⟩ => w.now R.rs _ .nil
theorem pa_cons1 (hn : noStar e = true) (he : PE X e (tX mg T E ra)) (hs : PA X es (tL mg T E rl)) :
    PA X (e :: es) (tL mg T E fun ρ st => (ra ρ st).bind fun d s1 => (rl ρ s1).bind fun ds s2 => .ok (d :: ds) s2) := by
  refine PA.mono (pa_cons he hs (star_cons hn)) fun σ H Q h => ?_
  obtain ⟨m, ρ, st, R, w⟩ := h
  exact ⟨m, ρ, st, R, w.bind.imp fun x m1 s1 H1 R1 E1 w1 v rv => ⟨m1, ρ, s1, R.ext R1 E1, w1.bind.imp fun ds m2 s2 H2 R2 E2 w2 vs rvs => w2.now R2 _ (.cons (rv.ext E2) rvs)⟩⟩
theorem pe_tup1 {k : Nat} (hl : es.length ≤ LIM) (hs : PA X es (tL mg T E rl)) (hlen : ∀ ρ st ds s, rl ρ st = .ok ds s → ds.length = es.length) : PE X (.Tuple es k pos) (tX mg T E fun ρ st => (rl ρ st).bind fun ds s1 => .ok (.tuple ds) s1) := by
  refine PE.mono (pe_tup hs) fun σ H Q h => ?_
  obtain ⟨m, ρ, st, R, w⟩ := h
  refine ⟨m, ρ, st, R, ?_⟩
  cases e : rl ρ st with
  | ok ds s =>
    have hl2 := hlen _ _ _ _ e
    dsimp only at w
    rw [e] at w
    intro m1 H1 R1 E1 vs rvs
    have hv := rvs.length
    refine ⟨by rw [← lim_eq]; omega, fun p hp => ?_⟩
    exact w _ _ (R1.upd hp) (E1.trans (R1.ext_upd hp)) _ (RV.new_tup R1 hp rvs (by omega))
  | exc c s => dsimp only at w; rw [e] at w; exact w
  | bad => dsimp only at w; rw [e] at w; exact w
theorem pe_lst1 {G : Glb} (hl : es.length ≤ LIM) (hs : PA X es (tL mg T E rl)) (hlen : ∀ ρ st ds s, rl ρ st = .ok ds s → ds.length = es.length) : PE X (.List es pos) (tX mg T E fun ρ st => (rl ρ st).bind fun ds s1 => alloc G pos ds s1) := by
  refine PE.mono (pe_lst hs) fun σ H Q h => ?_
  obtain ⟨m, ρ, st, R, w⟩ := h
  refine ⟨m, ρ, st, R, ?_⟩
  cases e : rl ρ st with
  | ok ds s =>
    have hl2 := hlen _ _ _ _ e
    dsimp only at w
    rw [e] at w
    intro m1 H1 R1 E1 vs rvs
    have hv := rvs.length
    refine ⟨by rw [← lim_eq]; omega, fun p hp => ?_⟩
    have w2 : Wok mg T m H (alloc G pos ds s) (KV mg Q) E := w
    unfold alloc at w2
    split at w2
    · split at w2
      · obtain ⟨w3, w4⟩ := R1.alloc hp rvs (by omega) (by assumption)
        exact w2 _ _ w3 (E1.trans (R1.ext_new hp)) _ w4
      · exact w2.elim
    · exact w2 _ _ (R1.upd hp) (E1.trans (R1.ext_upd hp)) _ (RV.new_lst R1 hp rvs (by omega))
  | exc c s => dsimp only at w; rw [e] at w; exact w
  | bad => dsimp only at w; rw [e] at w; exact w
theorem pe_if1 {c a b : Expr} (hc : PT X c (tT mg T E rt)) (ha : PE X a (tX mg T E ra)) (hb : PE X b (tX mg T E rb)) :
    PE X (.IfExp c a b pos) (tX mg T E fun ρ st => (rt ρ st).bind fun t s1 => match t with | true => ra ρ s1 | false => rb ρ s1) := by
  refine PE.mono (pe_ifExp hc ha hb) fun σ H Q h => ?_
  obtain ⟨m, ρ, st, R, w⟩ := h
  refine ⟨m, ρ, st, R, w.bind.imp fun x m1 s1 H1 R1 E1 w1 => ?_⟩
  cases x with
  | true => rw [if_pos rfl]; exact ⟨m1, ρ, s1, R.ext R1 E1, w1⟩
  | false => rw [if_neg Bool.false_ne_true]; exact ⟨m1, ρ, s1, R.ext R1 E1, w1⟩
def stB (op : BoolOp) (rb : Rho → Sto → Res D) (ρ : Rho) (d : D) (s1 : Sto) : Res D := match op, d with
  | .And, .bool true => rb ρ s1
  | .And, .bool false => .ok (.bool false) s1
  | .Or, .bool true => .ok (.bool true) s1
  | .Or, .bool false => rb ρ s1
  | _, _ => .bad
theorem pe_bo {op : BoolOp} {a b : Expr} {rest : List Expr} (ha : PE X a (tX mg T E ra)) (hb : PE X (.BoolOp op (b :: rest) pos) (tX mg T E rb)) :
    PE X (.BoolOp op (a :: b :: rest) pos) (tX mg T E fun ρ st => (ra ρ st).bind fun d s1 => stB op rb ρ d s1) := by
  cases op with
  | And =>
    refine PE.mono (pe_and ha hb) fun σ H Q h => ?_
    refine h.seq (f := fun d ρ s1 => stB .And rb ρ d s1) fun x v H1 m1 ρ s1 R rv w => ?_
    unfold stB at w
    split at w
    · cases rv; exact ⟨true, rfl, by rw [if_pos rfl]; exact ⟨m1, ρ, s1, R, w⟩⟩
    · cases rv; exact ⟨false, rfl, by rw [if_neg Bool.false_ne_true]; exact w.now R.rs _ (.bl false)⟩
    · contradiction
    · contradiction
    · exact w.elim
  | Or =>
    refine PE.mono (pe_or ha hb) fun σ H Q h => ?_
    refine h.seq (f := fun d ρ s1 => stB .Or rb ρ d s1) fun x v H1 m1 ρ s1 R rv w => ?_
    unfold stB at w
    split at w
    · contradiction
    · contradiction
    · cases rv; exact ⟨true, rfl, by rw [if_pos rfl]; exact w.now R.rs _ (.bl true)⟩
    · cases rv; exact ⟨false, rfl, by rw [if_neg Bool.false_ne_true]; exact ⟨m1, ρ, s1, R, w⟩⟩
    · exact w.elim
theorem pw_bo1 {op : BoolOp} {a : Expr} (ha : PT X a (tT mg T E fun ρ st => (ra ρ st).bind tob)) : PW X (.BoolOp op [a] pos) (tT mg T E fun ρ st => (ra ρ st).bind tob) := by
  cases op with
  | And => exact pw_and1 ha
  | Or => exact pw_or1 ha
theorem pw_bo {op : BoolOp} {a b : Expr} {rest : List Expr} (ha : PT X a (tT mg T E fun ρ st => (ra ρ st).bind tob)) (hb : PW X (.BoolOp op (b :: rest) pos) (tT mg T E fun ρ st => (rb ρ st).bind tob)) :
    PW X (.BoolOp op (a :: b :: rest) pos) (tT mg T E fun ρ st => ((ra ρ st).bind fun d s1 => stB op rb ρ d s1).bind tob) := by
  have key : ∀ {m : MA} {H : Hp} {ρ : Rho} {st : Sto} {Q : Bool → Hp → Prop}, Wok mg T m H (((ra ρ st).bind fun d s1 => stB op rb ρ d s1).bind tob) (fun b _ _ H' => Q b H') E →
      Wok mg T m H ((ra ρ st).bind tob) (fun b m1 s1 H1 => match op, b with
        | .And, true => Wok mg T m1 H1 ((rb ρ s1).bind tob) (fun b _ _ H' => Q b H') E
        | .And, false => Q false H1
        | .Or, true => Q true H1
        | .Or, false => Wok mg T m1 H1 ((rb ρ s1).bind tob) (fun b _ _ H' => Q b H') E) E := by
    intro m H ρ st Q w
    revert w
    cases ra ρ st with
    | ok d s =>
      intro w
      cases op <;> cases d <;> first
        | exact False.elim w
        | (rename_i b; cases b <;> first
            | exact fun m1 H1 R1 E1 => Wok.later w E1
            | exact fun m1 H1 R1 E1 => w m1 H1 R1 E1)
    | exc c s => exact fun w => w
    | bad => exact fun w => w
  cases op with
  | And =>
    refine PW.mono (pw_and ha hb) fun σ H Q h => ?_
    obtain ⟨m, ρ, st, R, w⟩ := h
    refine ⟨m, ρ, st, R, (key w).imp fun x m1 s1 H1 R1 E1 w1 => ?_⟩
    cases x with
    | true => rw [if_pos rfl]; exact ⟨m1, ρ, s1, R.ext R1 E1, w1⟩
    | false => rw [if_neg Bool.false_ne_true]; exact w1
  | Or =>
    refine PW.mono (pw_or ha hb) fun σ H Q h => ?_
    obtain ⟨m, ρ, st, R, w⟩ := h
    refine ⟨m, ρ, st, R, (key w).imp fun x m1 s1 H1 R1 E1 w1 => ?_⟩
    cases x with
    | true => rw [if_pos rfl]; exact w1
    | false => rw [if_neg Bool.false_ne_true]; exact ⟨m1, ρ, s1, R.ext R1 E1, w1⟩
theorem po_none1 : PO X none (tOI mg T E fun _ st => .ok none st) := ⟨fun pins s σ H Q I ⟨m, ρ, st, R, w⟩ => po_none.run pins s σ H Q I (w.now R.rs)⟩
theorem po_some1 (he : PE X e (tX mg T E ra)) : PO X (some e) (tOI mg T E fun ρ st => (ra ρ st).bind fun d s1 => match d with | .int i => .ok (some i) s1 | _ => .bad) := by
  refine ⟨fun pins s σ H Q I h => (po_some he).run pins s σ H Q I ?_⟩
  obtain ⟨m, ρ, st, R, w⟩ := h
  refine ⟨m, ρ, st, R, w.bind.imp fun x m1 s1 H1 R1 E1 w1 v rv => ?_⟩
  split at w1
  · cases rv
    exact ⟨_, rfl, w1.now R1⟩
  · exact w1.elim
theorem pe_cb {id : String} {f : Str} {p : Pos} (hc : CallR X (.builtin id) (rBi mg T f)) (hg : Gl X f) (hm : X.mg f = none) (hv : bootBuiltins f = some (.builtin id)) (hn : f ≠ "__name__") (hdb : (f == ("__debug__" : Str)) = false)
    (hs : (e :: es).all noStar = true) (ha : PA X (e :: es) (tL mg T E rl)) : PE X (.Call (.Name f p) (e :: es) [] pos) (tX mg T E fun ρ st => (rl ρ st).bind fun ds s1 => .lift (bi f ds) s1) := by
  have hs2 := hs
  simp only [List.all_cons, Bool.and_eq_true] at hs2
  refine PE.mono (pe_callB hc hg hm hv ha hn hdb (star_cons hs2.1) (star_any hs2.2)) fun σ H Q h => ?_
  obtain ⟨m, ρ, st, R, w⟩ := h
  refine ⟨m, ρ, st, R, w.bind.imp fun ds m1 s1 H1 R1 E1 w1 vs rvs => ?_⟩
  obtain ⟨d, e, w1⟩ := w1.lift
  exact ⟨m1, s1, ds, d, R1, rvs, e, giv_of w1⟩
theorem pe_ct {id : String} {f : Str} {p : Pos} (hc : CallR X (.type id) (rBi mg T f)) (hg : Gl X f) (hm : X.mg f = none) (hv : bootBuiltins f = some (.type id)) (hn : f ≠ "__name__") (hdb : (f == ("__debug__" : Str)) = false)
    (hs : (e :: es).all noStar = true) (ha : PA X (e :: es) (tL mg T E rl)) : PE X (.Call (.Name f p) (e :: es) [] pos) (tX mg T E fun ρ st => (rl ρ st).bind fun ds s1 => .lift (bi f ds) s1) := by
  have hs2 := hs
  simp only [List.all_cons, Bool.and_eq_true] at hs2
  refine PE.mono (pe_callTy hc hg hm hv ha hn hdb (star_cons hs2.1) (star_any hs2.2)) fun σ H Q h => ?_
  obtain ⟨m, ρ, st, R, w⟩ := h
  refine ⟨m, ρ, st, R, w.bind.imp fun ds m1 s1 H1 R1 E1 w1 vs rvs => ?_⟩
  obtain ⟨d, e, w1⟩ := w1.lift
  exact ⟨m1, s1, ds, d, R1, rvs, e, giv_of w1⟩
theorem pe_isi1 {a : Expr} {t : Str} {tn : String} {p q : Pos} (ht : (t, tn) ∈ ([("int", "int"), ("bool", "bool"), ("str", "str"), ("list", "list"), ("tuple", "tuple")] : List (Str × String))) (hg : Gl X "isinstance") (hm : X.mg "isinstance" = none)
    (hgt : Gl X t) (hmt : X.mg t = none) (hn : noStar a = true) (ha : PE X a (tX mg T E ra)) :
    PE X (.Call (.Name "isinstance" p) [a, .Name t q] [] pos) (tX mg T E fun ρ st => (ra ρ st).bind fun x s1 => .lift ((isKind x t).map .bool) s1) := by
  have hall : ∀ z ∈ ([("int", "int"), ("bool", "bool"), ("str", "str"), ("list", "list"), ("tuple", "tuple")] : List (Str × String)), bootBuiltins z.1 = some (.type z.2) ∧ z.1 ≠ "__name__" ∧ (z.1 == ("__debug__" : Str)) = false := by decide +kernel
  obtain ⟨b1, b2, b3⟩ := hall _ ht
  have hT : PE X (.Name t q) (tC (.ty tn)) := pe_bltn hgt hmt b1 rfl b2 b3
  refine PE.mono (pe_callB (cb_isi (mg := mg) (T := T) ht) hg hm (by decide +kernel) (pa_cons ha (pa_cons hT pa_nil rfl) (star_cons hn)) (by decide) (by decide) (star_cons hn) (by rfl)) fun σ H Q h => ?_
  obtain ⟨m, ρ, st, R, w⟩ := h
  refine ⟨m, ρ, st, R, w.bind.imp fun x m1 s1 H1 R1 E1 w1 v rv => ?_⟩
  obtain ⟨d, e, w1⟩ := w1.lift
  rw [Option.map_eq_some_iff] at e
  obtain ⟨b, e, rfl⟩ := e
  exact ⟨m1, s1, v, x, b, rfl, R1, rv, e, w1.now R1 _ (.bl b)⟩
/-- what a def promises -/
def spI (mg : MG) (T : List (Addr × Str)) (call : List D → Sto → Res D) (n : Nat) : Sp := fun vs H Q E => vs.length = n ∧ ∃ m ds st, RS mg T m st H ∧ RVs mg m H vs ds ∧ Wok mg T m H (call ds st) (KV mg Q) E
theorem pe_def {k : Nat} {f : Addr} {fd : FuncData} {ps : List Str} {x : Str} {p : Pos} {call : List D → Sto → Res D} (F : FnOk X.prog X.w X.K X.mg X.base (L2N.CX X.prog X.w) k f fd ps (spI mg T call ps.length)) (hr : Room k X.A) (hg : Gl X x) (hm : X.mg x = some (.ref f)) (hk : PySem.W.keepIn X.K (.ref f) = true)
    (hb : Binds X.K fd ps []) (tk : L2N.Takes X (fun c d _ H => E c d H)) (hdb : (x == ("__debug__" : Str)) = false) (hcl : ∀ ds st, ds.length ≠ ps.length → call ds st = .bad) (hs : es.all noStar = true) (ha : PA X es (tL mg T E rl)) (hnil : es = [] → ∀ ρ st, rl ρ st = .ok [] st) :
    PE X (.Call (.Name x p) es [] pos) (tX mg T E fun ρ st => (rl ρ st).bind fun ds s1 => call ds s1) := by
  have hx : Passes (L2N.CX X.prog X.w) X E := L2N.passes_call tk fun _ _ _ _ h => h
  have imp : ∀ {σ : L2.St} {H : Hp} {Q : VK}, tX mg T E (fun ρ st => (rl ρ st).bind fun ds s1 => call ds s1) σ H Q → tCall (spI mg T call ps.length) [] E (tL mg T E rl) σ H Q := by
    intro σ H Q h
    obtain ⟨m, ρ, st, R, w⟩ := h
    refine ⟨m, ρ, st, R, w.bind.imp fun ds m1 s1 H1 R1 E1 w1 vs rvs => ?_⟩
    show spI mg T call ps.length (vs ++ []) H1 Q E
    rw [List.append_nil]
    refine ⟨?_, m1, ds, s1, R1, rvs, w1⟩
    rw [rvs.length]
    by_cases hl : ds.length = ps.length
    · exact hl
    · rw [hcl ds s1 hl] at w1
      exact w1.elim
  cases es with
  | nil =>
    refine PE.mono (pe_call0 F hr hg hm hk hb .nil hx hdb) fun σ H Q h => ?_
    obtain ⟨m, ρ, st, R, w⟩ := h
    dsimp only at w
    rw [hnil rfl] at w
    refine ⟨?_, m, [], st, R.rs, .nil, w⟩
    by_cases hl : ([] : List D).length = ps.length
    · exact hl
    · rw [Res.bind_ok, hcl [] st hl] at w
      exact w.elim
  | cons e es =>
    have hs2 := hs
    simp only [List.all_cons, Bool.and_eq_true] at hs2
    exact PE.mono (pe_call F hr hg hm hk hb .nil hx ha hdb (star_cons hs2.1) (star_any hs2.2)) fun σ H Q h => imp h
end
end MP
set_option Elab.async false
set_option linter.all false
set_option maxRecDepth 100000
set_option maxHeartbeats 1000000
namespace MP
open PySem PySem.Spec PyProof.Rows L2
section
variable {M : Model} {A : Around} {E : Value → Shared → Prop} {s : Shared} {Z : Obj → Prop} {base : Heap} {env : Env} {outer : List Env} {L L' a : Addr}
theorem note_same {e0 ce : Env} (h : ce.frame = e0.frame) (u : Value) : noteFrame u ce = noteFrame u e0 := by
  unfold noteFrame PySem.frameOf
  rw [h]
/-- noted at another place: noted here -/
theorem note_held {Q : Unit → Shared → Prop} (hZ : PXN.Steady1 Z) (hfr : A.frames = some (env :: outer)) (hf : env.frame = some L) (hh : HandSPX.HeldZ base (env :: outer) a Z L' s.heap)
    (hQ : ∀ h', HandSPX.HeldZ base (env :: outer) a Z L h' → s.heap.UpToSlots h' → Q () { s with heap := h' }) : wpAny M A (noteFrame (.ref a) env) Q E s := by
  by_cases e : L' = L
  · subst e
    exact HandSPX.againZ hf hh.2.2.2 (hQ s.heap hh (Heap.UpToSlots.refl _))
  · obtain ⟨hkb, hen, hl, oe, vs, T, oT, ts, he, hz, hd, h1, hnT, hTe, hT, hdT, h3⟩ := hh
    have ne : ¬ ((rawInt L' == rawInt L) = true) := by
      simp only [rawInt, beq_iff_eq, Value.int.injEq, and_true]
      exact fun z => e (Int.ofNat.inj z)
    unfold noteFrame
    simp only [hf]
    refine wpAny_bind (wpAny_field he hd h1 ?_)
    rw [if_pos (show (Value.ref T != Value.none) = true from by simp)]
    refine wpAny_bind (wpAny_field hT hdT h3 ?_)
    rw [if_neg ne]
    refine wpAny_bind (wpAny_setField hT hdT (Array.getElem?_eq_some_iff.mp h3).1 ?_)
    have other : ∀ b, b ≠ T → (s.heap.update T (Obj.mapFields (·.setIfInBounds 3 Value.none))).get? b = s.heap.get? b := fun b hb => Heap.get?_update_other _ _ (Ne.symm hb)
    have noRecord : ∀ b o, s.heap.get? b = some o → (∀ vs, o.data ≠ .fields vs) → b ≠ T := fun b o hb hnf q => by
      rw [q, hT] at hb
      injection hb with hb
      subst hb
      exact hnf ts hdT
    refine PXN.wpAny_entryZ hZ hfr (hl.of_keeps fun b o hb hnf => ⟨o, (other b (noRecord b o hb hnf)).trans hb, rfl⟩) hf ((other a (Ne.symm hTe)).trans he)
      (fun b o hbo => (other b fun q => by rw [q, hnT] at hbo; cases hbo).trans (hkb b o hbo)) hen hd (Array.getElem?_eq_some_iff.mp h1).1 hz fun h' hN => ?_
    obtain ⟨x1, x2, x3, x4⟩ := hN
    exact hQ h' ⟨x1, hen, x2, x3⟩ fun b o hb hnf => x4 b o ((other b (noRecord b o hb hnf)).trans hb) hnf
/-- the block's frame notes what flies -/
theorem sky_note {Q : Unit → Shared → Prop} (hZ : PXN.Steady1 Z) (hfr : A.frames = some (env :: outer)) (hf : env.frame = some L) (x : Sky base (env :: outer) a Z L' s.heap)
    (hQ : ∀ h', HandSPX.HeldZ base (env :: outer) a Z L h' → s.heap.UpToSlots h' → Q () { s with heap := h' }) : wpAny M A (noteFrame (.ref a) env) Q E s := by
  rcases x with ⟨hB, hn, hl, oe, vs, he, hz, hd, h1⟩ | fl | hh
  · exact PXN.look_newZ hZ hfr hl hf he hB hn hd h1 hz hQ
  · exact PXN.looks_onZ hZ hfr hf fl hQ
  · exact note_held hZ hfr hf hh hQ
/-- it is passed on by the block -/
theorem pass_held {α : Type} {w : String} {ce : Env} {l : List Env} {Q : α → Shared → Prop} (hc : ce.frame = some L) (hh : HandSPX.HeldZ base l a Z L s.heap)
    (hE : ∀ h', HandSPX.HeldZ base l a Z L h' → s.heap.UpToSlots h' → E (.ref a) { s with heap := h' }) : wpAny M A (PySem.passOn w (.ref a) ce : Sem α) Q E s := by
  obtain ⟨f1, f2, f3, f4⟩ := hh
  have f4' := f4
  obtain ⟨oe, vs, T, oT, ts, he, hz, hd, h1, hnT, hTe, hT, hdT, h3⟩ := f4
  unfold PySem.passOn
  refine wpAny_bind (wpAny_field he hd h1 ?_)
  rw [if_neg (show ¬ ((Value.ref T == Value.none) = true) from by simp)]
  rw [hc]
  refine wpAny_bind (HandSPX.setFlight_anyZ f1 f3 f4' fun h' k1 k2 k3 k4 => ?_)
  exact wpAny_throw (hE h' ⟨k1, f2, k2, k3⟩ k4)
end

theorem fun_let {h1 h2 B : Heap} {C : Addr} (sb : Heap.SameBut C h1 h2) : ∀ {l : List Env}, C ∉ frs l → h1.FunFrames B l → h2.FunFrames (B.hide C) l
  | [], _, _ => trivial
  | e :: l, hC, h => by
    obtain ⟨hk, ⟨L, o, hf, hB, ho, hd⟩, hr⟩ := h
    have m : ∀ b, b ∈ frs (e :: l) ↔ b = L ∨ b ∈ frs l := fun b => by
      unfold frs
      rw [List.filterMap_cons, hf]
      exact List.mem_cons
    have hL : L ≠ C := fun z => hC ((m C).mpr (.inl z.symm))
    refine ⟨hk, ⟨L, o, hf, ?_, (sb.2 L hL).trans ho, hd⟩, fun_let sb (fun z => hC ((m C).mpr (.inr z))) hr⟩
    rw [Heap.hide_ne _ hL]
    exact hB
/-- the block's names are let go -/
theorem held_let {h1 h2 B : Heap} {C a L : Addr} {l : List Env} {Z : Obj → Prop} {m : Str → Option Value} (hn : h1.Ns C m) (hC : C ∉ frs l) (sb : Heap.SameBut C h1 h2) (hh : HandSPX.HeldZ B l a Z L h1) : HandSPX.HeldZ (B.hide C) l a Z L h2 := by
  obtain ⟨f1, f2, f3, oe, vs, T, oT, ts, he, hz, hd, q1, hnT, hTe, hT, hdT, q3⟩ := hh
  obtain ⟨oc, es, ep, hc, hcd, _, _⟩ := hn
  have na : a ≠ C := fun z => by
    rw [z, hc] at he
    cases he
    rw [hcd] at hd
    cases hd
  have nT : T ≠ C := fun z => by
    rw [z, hc] at hT
    cases hT
    rw [hcd] at hdT
    cases hdT
  refine ⟨fun b o e => ?_, ?_, fun_let sb hC f3, oe, vs, T, oT, ts, (sb.2 a na).trans he, hz, hd, q1, ?_, hTe, (sb.2 T nT).trans hT, hdT, q3⟩
  · by_cases hb : b = C
    · rw [hb, Heap.hide_self] at e
      cases e
    · rw [Heap.hide_ne _ hb] at e
      exact (sb.2 b hb).trans (f1 b o e)
  · rw [Heap.hide_ne _ na]
    exact f2
  · rw [Heap.hide_ne _ nT]
    exact hnT
/-- what the end of a block wants of an exception -/
abbrev rrX (X : Cx) (ce : Env) (Q : Value → Shared → Prop) (u : Value) (s' : Shared) : Prop :=
  ∃ m, s'.heap.Ns ce.locals m ∧ ∀ h', Heap.SameBut ce.locals s'.heap h' → wpAny (model X.prog X.w) X.A (PySem.passOn "comprehension.variables-let-go" u ce : Sem Value) Q X.xe { s' with heap := h' }
abbrev blkX (X : Cx) (s : Shared) (H : Hp) (scope : Scope) (ce : Env) (fp : List Addr) (Q : Value → Shared → Prop) : Cx := (X.blk s H scope ce fp).wish (notedBy (model X.prog X.w) X.A ce (rrX X ce Q))
theorem takes_blk {X : Cx} {pins : List (Addr × Obj)} {σ : L2.St} {H3 : Hp} {s3 : Shared} {E : XK} {scope : Scope} {ce : Env} {fp : List Addr} {Q : Value → Shared → Prop} (hs : X.stack = X.env :: X.outer) (hf : X.env.frame = some X.env.locals) (tk : L2N.Takes X (fun c d _ H => E c d H))
    (I3 : Inv X pins σ H3 s3) (f3 : ∀ b ∈ fp, FpOk X pins H3 b) (hC : ce.locals = s3.heap.objs.size) (hfr : ce.frame = X.env.frame) : L2N.Takes (blkX X s3 H3 scope ce fp Q) (fun c d _ H => E c d H) := by
  rintro u s' ⟨a, B, sI, pins', σ', H', cls, d, rfl, I, nb, up, sky, na, os, ag, w⟩
  have hfr' : X.A.frames = some (X.env :: X.outer) := by
    rw [← hs]
    exact I3.ok.frames
  have sky : Sky B X.stack a (L2N.Zn cls d) ce.locals s'.heap := sky
  rw [hs] at sky
  show wpAny _ _ (noteFrame (.ref a) ce) _ _ _
  rw [note_same hfr]
  refine sky_note L2N.Zn.steady hfr' hf sky fun h1 hh up1 => ?_
  have I7 : Inv X pins σ H' sI := I3.call' (ch := fp) I.os I.base I.hok I.bare fun b hb => ⟨(f3 b hb).2.2.2.1, (f3 b hb).2.1, (f3 b hb).2.2.2.2.1, (f3 b hb).2.2.2.2.2⟩
  have nC : H' ce.locals = none := I.free
  obtain ⟨c0, c1, c2, c3, c4, c5⟩ := I3.fpOk (b := ce.locals) (Nat.le_of_eq hC.symm) nC
  obtain ⟨m, ⟨oc, es, ep, e1, e2, e3, e4⟩, _⟩ := I.loc
  have e1 : sI.heap.get? ce.locals = some oc := e1
  have nfC : ∀ vs, oc.data ≠ .fields vs := fun vs z => by
    rw [e2] at z
    cases z
  obtain ⟨sl1, g1⟩ := up _ _ e1 nfC
  obtain ⟨sl2, g2⟩ := up1 _ _ g1 nfC
  have hn : h1.Ns ce.locals m := ⟨_, es, ep, g2, e2, e3, e4⟩
  have nfr : ce.locals ∉ frs (X.env :: X.outer) := fun z => by
    unfold frs at z
    rw [List.filterMap_cons, hf] at z
    rcases List.mem_cons.mp z with z | z
    · exact c1 z
    · exact c2 z
  refine ⟨m, hn, fun h2 sb => ?_⟩
  have hh2 := held_let hn nfr sb hh
  refine pass_held (hfr.trans hf) hh2 fun h3 hh3 up3 => tk _ _ ⟨a, B.hide ce.locals, { sI with heap := sI.heap.hide ce.locals }, pins, σ, H', cls, d, rfl, ?_, fun b o e hb => ?_, fun b o e hnf => ?_, ?_, na, os, ag, w⟩
  · exact I7.turned (t' := sI.toks) (fun b o hb e => (Heap.hide_ne _ hb).trans e) c0 c1 c3 c4 c5
  · by_cases hbC : b = ce.locals
    · have e : (sI.heap.hide ce.locals).get? b = some o := e
      rw [hbC, Heap.hide_self] at e
      cases e
    · have e : (sI.heap.hide ce.locals).get? b = some o := e
      rw [Heap.hide_ne _ hbC] at e ⊢
      exact nb b o e hb
  · by_cases hbC : b = ce.locals
    · have e : (sI.heap.hide ce.locals).get? b = some o := e
      rw [hbC, Heap.hide_self] at e
      cases e
    · have e : (sI.heap.hide ce.locals).get? b = some o := e
      rw [Heap.hide_ne _ hbC] at e
      obtain ⟨s1, k1⟩ := up b o e hnf
      obtain ⟨s2, k2⟩ := up1 b _ k1 hnf
      have k2' : h2.get? b = _ := (sb.2 b hbC).trans k2
      obtain ⟨s5, k5⟩ := up3 b { o with slots := s2 } k2' hnf
      exact ⟨s5, k5⟩
  · rw [hs]
    exact .inr (.inr hh3)

section
variable {X : Cx} {E : XK}
/-- the block of a comprehension that may raise: the loop -/
theorem lcx_loop {pins : List (Addr × Obj)} {s3 : Shared} {σ : L2.St} {H3 : Hp} {Q : VK} {elt tg iter : Expr} {ifs : List Expr} {scope : Scope} {vs : List Nat} {pos : Pos} {g : TG} {tt : TT} {te : TE} {Qz : Value → Shared → Prop} {J : It} {W : Nat → Nat → Hp → Prop} {m0 : Nat} {it D : Addr} {tn : Nat → Heap → Prop} {fp : List Addr} {ce : Env} {s4 : Shared} {R : Result → Shared → Prop}
    (hc : X.calm = true) (I3 : Inv X pins σ H3 s3) (f3 : ∀ b ∈ fp, FpOk X pins H3 b) (hC : ce.locals = s3.heap.objs.size)
    (hRe : ∀ e s', rrX X ce Qz e s' → R (.error e) s')
    (hRR : ∀ s' H', Inv X pins σ H' s' → Q (.ref D) H' → (∃ m, s'.heap.Ns ce.locals m) → FpOk X pins H' ce.locals → R (.ok .next) s')
    (T : Turn X.prog X.w X.K tg J fp it tn)
    (pg : PG (blkX X s3 H3 scope ce fp Qz) tg g) (pt : PTs (blkX X s3 H3 scope ce fp Qz) ifs tt) (pe : PE (blkX X s3 H3 scope ce fp Qz) elt te)
    (I4 : Inv (blkX X s3 H3 scope ce fp Qz) [] (wipe σ vs) H3 s4) (st4 : tn 0 s4.heap) (nfp : ∀ b ∈ fp, H3 b = none) (w0 : W 0 m0 H3)
    (turn : ∀ i m H, W i m H → (J.stop i H ∧ Q (.ref D) H) ∨ (J.go i H ∧ ∃ Nx : Hp → Prop, (∀ H', Nx H' → ∃ m', m' < m ∧ W (i + 1) m' H') ∧ ∀ x H', J.yld i H x H' → g x (wipe σ vs) H' fun σ2 H2 => wipe σ2 vs = wipe σ vs ∧ tt σ2 H2 fun b H3 =>
      if b = true then te σ2 H3 fun y H4 => ∃ acc, H4 D = some (.lst acc) ∧ acc.length < sizeLine ∧ Nx (upd H4 D (.lst (acc ++ [y]))) else Nx H3)) :
    codeAny (model X.prog X.w) X.A (.compLoop (.ListComp elt [⟨tg, iter, ifs, 0⟩] scope pos) 0 (.ref it) (.ref D) ce) R s4 := by
  have hE : ∀ e s', (blkX X s3 H3 scope ce fp Qz).xe e s' → notedBy (model X.prog X.w) X.A ce (fun e s' => R (.error e) s') e s' := fun e s' x => wpAny_mono x (fun _ s2 q => hRe e s2 q) fun _ s2 q => hRe _ s2 q
  have stat : ∀ {σ' : L2.St} {H' : Hp} {s' : Shared}, Inv (blkX X s3 H3 scope ce fp Qz) [] σ' H' s' → (∀ b ∈ fp, H' b = none) → ∀ b ∈ fp, FpOk (blkX X s3 H3 scope ce fp Qz) [] H' b := fun {σ' H' s'} I' hn b hb =>
    ⟨hn b hb, (I'.ok.exf b hb).1, I'.ok.exfs b hb, .inl hb, fun x c e => (I'.ok.exf b hb).2 x c e, fun p hp => absurd (show p ∈ ([] : List (Addr × Obj)) ++ [] from hp) (by simp)⟩
  refine compLoop_any (fun n s' => ∃ i H', Inv (blkX X s3 H3 scope ce fp Qz) [] (wipe σ vs) H' s' ∧ tn i s'.heap ∧ (∀ b ∈ fp, H' b = none) ∧ W i n H') ?_ m0 ⟨0, H3, I4, st4, nfp, w0⟩
  rintro n s5 ⟨i, H5, I5, st5, n5, w5⟩
  rcases turn i n H5 w5 with ⟨stop, qq⟩ | ⟨go, Nx, hNx, step⟩
  · have td := T.done (blkX X s3 H3 scope ce fp Qz) rfl rfl rfl hc i [] s5 _ H5 (fun _ _ => False) I5 (stat I5 n5) st5 stop
    refine thnF td fun r s6 ⟨hr, I6⟩ => ?_
    subst hr
    have I7 : Inv X pins σ H5 s6 := I3.call' (ch := fp) I6.os I6.base I6.hok I6.bare fun b hb => ⟨(f3 b hb).2.2.2.1, (f3 b hb).2.1, (f3 b hb).2.2.2.2.1, (f3 b hb).2.2.2.2.2⟩
    have nC : H5 ce.locals = none := I6.free
    obtain ⟨m, hn, _⟩ := I6.loc
    exact hRR s6 H5 I7 qq ⟨m, hn⟩ (I3.fpOk (Nat.le_of_eq hC.symm) nC)
  · have ti := T.item (blkX X s3 H3 scope ce fp Qz) rfl rfl rfl hc i [] s5 _ H5 (fun _ _ => False) I5 (stat I5 n5) st5 go
    refine thnF ti fun r s6 ⟨u, hr, h6⟩ => ?_
    subst hr
    refine thnF h6 fun _ s7 ⟨x, H7, I7, r7, y7, st7, n7⟩ => ?_
    have I7' := I7.pinned (stat I7 n7) (T.obj _ _ st7)
    refine wpAny_mono (pg.run _ s7 _ H7 x u _ I7' r7 (step x H7 y7)) (fun _ s8 ⟨σ8, H8, I8, hw8, q8⟩ => ?_) hE
    refine wpAny_mono (pt.run _ s8 σ8 H8 _ I8 q8) (fun b s9 ⟨H9, I9, q9⟩ => ?_) hE
    have fin : ∀ {s' : Shared} {H' : Hp}, Inv (blkX X s3 H3 scope ce fp Qz) ([] ++ pinsAt fp s7.heap) σ8 H' s' → Nx H' → ∃ m, m < n ∧ ∃ i H', Inv (blkX X s3 H3 scope ce fp Qz) [] (wipe σ vs) H' s' ∧ tn i s'.heap ∧ (∀ b ∈ fp, H' b = none) ∧ W i m H' := fun {s' H'} I' nx => by
      obtain ⟨m', hm, w'⟩ := hNx H' nx
      have pin' : ∀ b ∈ fp, ∀ o, s7.heap.get? b = some o → s'.heap.get? b = some o ∧ H' b = none := fun b hb o e =>
        let z := I'.pin (b, o) (List.mem_append_right _ (List.mem_append_right _ (mem_pinsAt hb e)))
        ⟨z.1, z.2.1⟩
      have hl : (wipe σ vs).length = σ8.length := by rw [← hw8, wipe_length]
      refine ⟨m', hm, i + 1, H', (I'.unpinned (pins := [])).weak hl (fun j v e => ?_), T.keep _ _ _ st7 fun b hb o e => (pin' b hb o e).1, fun b hb => ?_, w'⟩
      · rw [← hw8] at e
        exact (wipe_some e).1
      · obtain ⟨o, e, _⟩ := T.obj _ _ st7 b hb
        exact (pin' b hb o e).2
    cases b with
    | false =>
      simp only [Bool.false_eq_true, if_false] at q9 ⊢
      exact fin I9 q9
    | true =>
      simp only [if_true] at q9 ⊢
      refine wpAny_mono (pe.run _ s9 σ8 H9 _ I9 q9) (fun z s10 ⟨yv, H10, I10, r10, acc, hD10, hz10, nx⟩ => ?_) hE
      exact app_ok (X := blkX X s3 H3 scope ce fp Qz) I10 hD10 hz10 r10 fun s11 I11 => fin I11 nx
theorem relabel_id {scope : Scope} {env : Env} (h : ∀ x ∈ scope.names, x.2 ≠ .free) : relabel scope env = scope := by
  unfold relabel
  rw [map_eq_self (l := scope.names) (fun x hx => by
    obtain ⟨n, k⟩ := x
    have : (k == NameKind.free) = false := by simpa using h _ hx
    simp [this])]
theorem cloFrom_id {cells : List (Str × Addr)} : ∀ {names : List (Str × NameKind)} {acc : List (Str × Addr)}, (∀ x ∈ names, x.2 ≠ .free) → cloFrom cells names acc = acc
  | [], _, _ => rfl
  | (n, k) :: r, acc, h => by
    unfold cloFrom
    have : (k == NameKind.free) = false := by simpa using h (n, k) (List.mem_cons_self ..)
    rw [if_neg (by rw [this]; exact Bool.false_ne_true)]
    exact cloFrom_id fun x hx => h x (List.mem_cons_of_mem _ hx)
/-- behind the iterator: the new list, the block -/
theorem lcx_core {pins : List (Addr × Obj)} {s2 : Shared} {σ : L2.St} {H2 : Hp} {Q : VK} {elt tg iter : Expr} {ifs : List Expr} {scope : Scope} {own : List (Str × Nat)} {pos : Pos} {g : TG} {tt : TT} {te : TE} {Qz : Value → Shared → Prop} {J : It} {it : Addr} {tn : Nat → Heap → Prop} {fp : List Addr} {RR : Value → Env → Result → Shared → Prop}
    (hc : X.calm = true) (hN : X.N.Nodup) (hs : X.stack = X.env :: X.outer) (hf : X.env.frame = some X.env.locals) (tk : L2N.Takes X (fun c d _ H => E c d H)) (ok : BlkOk X.N X.env.scope scope own) (hnf : ∀ x ∈ scope.names, x.2 ≠ .free)
    (hg : ∀ (s : Shared) (H : Hp) (C : Addr) (cl : List (Str × Addr)) (fp : List Addr), L2N.Takes (blkX X s H scope (compEnvC scope cl C X.env) fp Qz) (fun c d _ H => E c d H) → PG (blkX X s H scope (compEnvC scope cl C X.env) fp Qz) tg g)
    (ht : ∀ (s : Shared) (H : Hp) (C : Addr) (cl : List (Str × Addr)) (fp : List Addr), L2N.Takes (blkX X s H scope (compEnvC scope cl C X.env) fp Qz) (fun c d _ H => E c d H) → PTs (blkX X s H scope (compEnvC scope cl C X.env) fp Qz) ifs tt)
    (he : ∀ (s : Shared) (H : Hp) (C : Addr) (cl : List (Str × Addr)) (fp : List Addr), L2N.Takes (blkX X s H scope (compEnvC scope cl C X.env) fp Qz) (fun c d _ H => E c d H) → PE (blkX X s H scope (compEnvC scope cl C X.env) fp Qz) elt te)
    (I2 : Inv X pins σ H2 s2) (T : Turn X.prog X.w X.K tg J fp it tn) (st2 : tn 0 s2.heap) (f2 : ∀ b ∈ fp, FpOk X pins H2 b)
    (q : ∀ D, H2 D = none → ∃ W : Nat → Nat → Hp → Prop, (∃ m, W 0 m (upd H2 D (.lst []))) ∧ ∀ i m H, W i m H → (J.stop i H ∧ Q (.ref D) H) ∨ (J.go i H ∧ ∃ Nx : Hp → Prop, (∀ H', Nx H' → ∃ m', m' < m ∧ W (i + 1) m' H') ∧ ∀ x H', J.yld i H x H' → g x (wipe σ (own.map (·.2))) H' fun σ2 H2 => wipe σ2 (own.map (·.2)) = wipe σ (own.map (·.2)) ∧ tt σ2 H2 fun b H3 =>
      if b = true then te σ2 H3 fun y H4 => ∃ acc, H4 D = some (.lst acc) ∧ acc.length < sizeLine ∧ Nx (upd H4 D (.lst (acc ++ [y]))) else Nx H3))
    (hRe : ∀ D ce e s', rrX X ce Qz e s' → RR (.ref D) ce (.error e) s')
    (hRR : ∀ D (ce : Env) s' H', Inv X pins σ H' s' → Q (.ref D) H' → (∃ m, s'.heap.Ns ce.locals m) → FpOk X pins H' ce.locals → RR (.ref D) ce (.ok .next) s') :
    wpAny (model X.prog X.w) X.A (newList []) (fun acc s₃ => wpAny (model X.prog X.w) X.A (newFunctionEnv scope X.env.globals [] [] X.env.qual none .none (some X.env)) (fun cenv s₄ =>
      codeAny (model X.prog X.w) X.A (.compStart (.ListComp elt [⟨tg, iter, ifs, 0⟩] scope pos) 0 (.ref it) acc { cenv with scope := scope }) (RR acc { cenv with scope := scope }) s₄) X.xe s₃) X.xe s2 := by
  refine wpAny_newObj_type (newEnv_comp ?_) (by show 0 ≤ sizeLine; decide)
  generalize hD : s2.heap.objs.size = D
  have hDn : H2 D = none := I2.hok.fresh (Nat.le_of_eq hD)
  obtain ⟨W, ⟨m0, w0⟩, turn⟩ := q D hDn
  generalize hs3 : ({ s2 with heap := s2.heap.push { cls := .type "list", data := .seq ([] : List Value).toArray } } : Shared) = s3
  have I3 : Inv X pins σ (upd H2 D (.lst [])) s3 := by
    rw [← hs3]
    refine I2.laid (t' := s2.toks) (fun b o e => Heap.get?_push_of_some _ e) (Nat.le_of_eq hD) ⟨Nat.zero_le _, [], 0, .nil, ?_⟩
    rw [← hD]
    exact Heap.get?_push_size _ rfl
  have h3 : s3.heap = s2.heap.push { cls := .type "list", data := .seq ([] : List Value).toArray } := by rw [← hs3]
  have sz : ∀ b ∈ fp, b < s2.heap.objs.size := fun b hb => by
    obtain ⟨o, e, _⟩ := T.obj _ _ st2 b hb
    exact Heap.lt_size e
  have f3 : ∀ b ∈ fp, FpOk X pins (upd H2 D (.lst [])) b ∧ b < s3.heap.objs.size := fun b hb => by
    have hlt := sz b hb
    refine ⟨⟨?_, (f2 b hb).2⟩, by rw [h3, Heap.size_push]; exact Nat.lt_succ_of_lt hlt⟩
    rw [upd_ne (by rw [← hD]; exact Nat.ne_of_lt hlt)]
    exact (f2 b hb).1
  have st3 : tn 0 s3.heap := T.keep _ _ _ st2 fun b _ o e => by rw [h3]; exact Heap.get?_push_of_some _ e
  have I4 := block_start I3 ok hN f3
  have eC : cloFrom X.env.cells scope.names [] = [] := cloFrom_id hnf
  rw [eC] at I4
  have tkb : L2N.Takes (blkX X s3 (upd H2 D (.lst [])) scope (compEnvC scope (cellsFrom (s3.heap.objs.size + 1) scope.names []) s3.heap.objs.size X.env) fp Qz) (fun c d _ H => E c d H) := takes_blk hs hf tk I3 (fun b hb => (f3 b hb).1) rfl rfl
  have pg := hg _ _ _ _ _ tkb
  have pt := ht _ _ _ _ _ tkb
  have pe := he _ _ _ _ _ tkb
  have I4 := I4.wish (notedBy (model X.prog X.w) X.A (compEnvC scope (cellsFrom (s3.heap.objs.size + 1) scope.names []) s3.heap.objs.size X.env) (rrX X (compEnvC scope (cellsFrom (s3.heap.objs.size + 1) scope.names []) s3.heap.objs.size X.env) Qz))
  have ece : ({ compEnvC scope (cellsFrom (s3.heap.objs.size + 1) scope.names []) s3.heap.objs.size X.env with scope := scope } : Env) = compEnvC scope (cellsFrom (s3.heap.objs.size + 1) scope.names []) s3.heap.objs.size X.env := by
    unfold compEnvC
    rw [relabel_id hnf]
  show codeAny _ _ (.compStart (.ListComp elt [⟨tg, iter, ifs, 0⟩] scope pos) 0 (.ref it) (.ref D) { compEnvC scope (cellsFrom (s3.heap.objs.size + 1) scope.names []) s3.heap.objs.size X.env with scope := scope }) (RR (.ref D) { compEnvC scope (cellsFrom (s3.heap.objs.size + 1) scope.names []) s3.heap.objs.size X.env with scope := scope }) { s3 with heap := pushCells (s3.heap.push { cls := .type "dict", data := .dict #[] }) scope.names }
  rw [ece]
  have cL : (compEnvC scope (cellsFrom (s3.heap.objs.size + 1) scope.names []) s3.heap.objs.size X.env).locals = s3.heap.objs.size := rfl
  generalize hce : compEnvC scope (cellsFrom (s3.heap.objs.size + 1) scope.names []) s3.heap.objs.size X.env = ce at I4 pg pt pe cL ⊢
  have st4 : tn 0 (pushCells (s3.heap.push { cls := .type "dict", data := .dict #[] }) scope.names) := T.keep _ _ _ st3 fun b _ o e => pushCells_keeps _ _ _ _ (Heap.get?_push_of_some _ e)
  have loop := lcx_loop (Q := Q) (pos := pos) (iter := iter) (R := RR (.ref D) ce) hc I3 (fun b hb => (f3 b hb).1) cL (fun e s' => hRe D ce e s') (fun s' H' a b c d => hRR D ce s' H' a b c d) T pg pt pe I4 st4 (fun b hb => (f3 b hb).1.1) w0 turn
  exact codeAny_compStart_list loop (T.self X.A 0 _ _ _ st4 loop)
/-- as a value -/
theorem pe_lcx {elt tg iter : Expr} {ifs : List Expr} {scope : Scope} {own : List (Str × Nat)} {pos : Pos} {wi : TI} {g : TG} {tt : TT} {te : TE}
    (hc : X.calm = true) (hN : X.N.Nodup) (hs : X.stack = X.env :: X.outer) (hf : X.env.frame = some X.env.locals) (tk : L2N.Takes X (fun c d _ H => E c d H)) (hi : PI X tg iter wi) (ok : BlkOk X.N X.env.scope scope own) (hnf : ∀ x ∈ scope.names, x.2 ≠ .free)
    (hg : ∀ (s : Shared) (H : Hp) (C : Addr) (cl : List (Str × Addr)) (fp : List Addr) (Qz : Value → Shared → Prop), L2N.Takes (blkX X s H scope (compEnvC scope cl C X.env) fp Qz) (fun c d _ H => E c d H) → PG (blkX X s H scope (compEnvC scope cl C X.env) fp Qz) tg g)
    (ht : ∀ (s : Shared) (H : Hp) (C : Addr) (cl : List (Str × Addr)) (fp : List Addr) (Qz : Value → Shared → Prop), L2N.Takes (blkX X s H scope (compEnvC scope cl C X.env) fp Qz) (fun c d _ H => E c d H) → PTs (blkX X s H scope (compEnvC scope cl C X.env) fp Qz) ifs tt)
    (he : ∀ (s : Shared) (H : Hp) (C : Addr) (cl : List (Str × Addr)) (fp : List Addr) (Qz : Value → Shared → Prop), L2N.Takes (blkX X s H scope (compEnvC scope cl C X.env) fp Qz) (fun c d _ H => E c d H) → PE (blkX X s H scope (compEnvC scope cl C X.env) fp Qz) elt te)
    (hfs : ∀ x, foldedSetIterable iter X.env x = pure x := by intro _; rfl) :
    PE X (.ListComp elt [⟨tg, iter, ifs, 0⟩] scope pos) (tLc wi g tt te (own.map (·.2))) := by
  refine ⟨fun pins s σ H Q I h => ?_⟩
  refine wpAny_ListComp hnf ok.kind (fun y hy e => by rw [ok.uniq y hy, e]) ?_ hfs
  refine thn (hi.run pins s σ H _ I h) fun xv s1 hx => thn hx fun itv s2 h2 => ?_
  obtain ⟨it, fp, tn, J, H2, e, I2, T, st2, f2, q⟩ := h2
  subst e
  refine lcx_core (Q := Q) (Qz := EP X pins σ Q) (RR := fun acc ce r s' => ∃ m, s'.heap.Ns ce.locals m ∧ ∀ h', Heap.SameBut ce.locals s'.heap h' → match r with | .ok _ => EP X pins σ Q acc { s' with heap := h' } | .error x => wpAny (model X.prog X.w) X.A (PySem.passOn "comprehension.variables-let-go" x ce : Sem Value) (EP X pins σ Q) X.xe { s' with heap := h' }) (iter := iter) (pos := pos) hc hN hs hf tk ok hnf (fun s H C cl fp => hg s H C cl fp _) (fun s H C cl fp => ht s H C cl fp _) (fun s H C cl fp => he s H C cl fp _) I2 T st2 f2 q ?_ ?_
  · rintro D ce e s' ⟨m, hn, k⟩
    exact ⟨m, hn, fun h' sb => k h' sb⟩
  · rintro D ce s' H' I' q' ⟨m, hn⟩ f
    refine ⟨m, hn, fun h'' sb => ?_⟩
    obtain ⟨f0, f1, f2, f3, f4, f5⟩ := f
    exact ⟨.ref D, H', I'.turned (t' := s'.toks) (fun b o hb e => (sb.2 b hb).trans e) f0 f1 f3 f4 f5, rfl, q'⟩
/-- name = [..] on one line, the name a local -/
theorem ps_setLcx {i : Nat} {y : Str} {py : Pos} {elt tg iter : Expr} {ifs : List Expr} {scope : Scope} {own : List (Str × Nat)} {pos spos : Pos} {wi : TI} {g : TG} {tt : TT} {te : TE}
    (hc : X.calm = true) (hN : X.N.Nodup) (hs : X.stack = X.env :: X.outer) (hf : X.env.frame = some X.env.locals) (tk : L2N.Takes X (fun c d _ H => E c d H)) (hy : X.N[i]? = some y) (hyl : X.env.scope.names.lookup y = some .local)
    (hsw : swapsWith (.ListComp elt [⟨tg, iter, ifs, 0⟩] scope pos) (some (.Name y py)) spos.line X.env = pure true) (hi : PI X tg iter wi) (ok : BlkOk X.N X.env.scope scope own) (hnf : ∀ x ∈ scope.names, x.2 ≠ .free)
    (hg : ∀ (s : Shared) (H : Hp) (C : Addr) (cl : List (Str × Addr)) (fp : List Addr) (Qz : Value → Shared → Prop), L2N.Takes (blkX X s H scope (compEnvC scope cl C X.env) fp Qz) (fun c d _ H => E c d H) → PG (blkX X s H scope (compEnvC scope cl C X.env) fp Qz) tg g)
    (ht : ∀ (s : Shared) (H : Hp) (C : Addr) (cl : List (Str × Addr)) (fp : List Addr) (Qz : Value → Shared → Prop), L2N.Takes (blkX X s H scope (compEnvC scope cl C X.env) fp Qz) (fun c d _ H => E c d H) → PTs (blkX X s H scope (compEnvC scope cl C X.env) fp Qz) ifs tt)
    (he : ∀ (s : Shared) (H : Hp) (C : Addr) (cl : List (Str × Addr)) (fp : List Addr) (Qz : Value → Shared → Prop), L2N.Takes (blkX X s H scope (compEnvC scope cl C X.env) fp Qz) (fun c d _ H => E c d H) → PE (blkX X s H scope (compEnvC scope cl C X.env) fp Qz) elt te)
    (hfs : ∀ x, foldedSetIterable iter X.env x = pure x := by intro _; rfl) :
    PS X (.Assign [.Name y py] (.ListComp elt [⟨tg, iter, ifs, 0⟩] scope pos) spos) (tAsg (tLc wi g tt te (own.map (·.2))) (gName i)) := by
  refine ⟨fun pins s σ H D I h => ?_⟩
  rw [exec_Assign_Name_used _ _ _ _ hsw]
  refine wpAny_bind (wpAny_standAt (wpAny_bind ?_))
  show wpAny _ X.A (do let _ ← comprehension (.ListComp elt [⟨tg, iter, ifs, 0⟩] scope pos) scope X.env (firstIterPos [⟨tg, iter, ifs, 0⟩] pos) (newList []) false (eval iter X.env) (some (assign (.Name y py) X.env))) _ _ s
  have h : tLc wi g tt te (own.map (·.2)) σ H (fun x H1 => gName i x σ H1 D.nx) := h
  refine wpAny_bind (thn (wpAny_comprehension_use (Q := fun _ s' => SP X pins D .next s') rfl hfs hnf ok.kind (fun y hy e => by rw [ok.uniq y hy, e]) ?_) fun _ s' hq => wpAny_pure (wpAny_pure hq))
  refine thn (hi.run pins s σ H _ I h) fun xv s1 hx => thn hx fun itv s2 h2 => ?_
  obtain ⟨it, fp, tn, J, H2, e, I2, T, st2, f2, q⟩ := h2
  subst e
  refine lcx_core (Q := fun x H1 => gName i x σ H1 D.nx) (Qz := fun _ s' => SP X pins D .next s') (RR := fun acc ce r s' => match r with
    | .ok _ => wpAny (model X.prog X.w) X.A (assign (.Name y py) X.env acc) (fun _ s'' => ∃ m, s''.heap.Ns ce.locals m ∧ ∀ h', Heap.SameBut ce.locals s''.heap h' → SP X pins D .next { s'' with heap := h' }) X.xe s'
    | .error x => ∃ m, s'.heap.Ns ce.locals m ∧ ∀ h', Heap.SameBut ce.locals s'.heap h' → wpAny (model X.prog X.w) X.A (PySem.passOn "comprehension.variables-let-go" x ce : Sem Value) (fun _ s' => SP X pins D .next s') X.xe { s' with heap := h' }) (iter := iter) (pos := pos) hc hN hs hf tk ok hnf (fun s H C cl fp => hg s H C cl fp _) (fun s H C cl fp => ht s H C cl fp _) (fun s H C cl fp => he s H C cl fp _) I2 T st2 f2 q ?_ ?_
  · rintro D ce e s' ⟨m, hn, k⟩
    exact ⟨m, hn, fun h' sb => k h' sb⟩
  · rintro L ce s' H' I' q' ⟨m, hn⟩ f
    show wpAny _ _ (assign (.Name y py) X.env (.ref L)) _ _ _
    refine wpAny_assign_Name (store_ok2 (v := V.ref L) I' hN hy (.inl hyl) rfl (fun s2 I2 ⟨a, sb, ha⟩ => ?_) (.inr hyl))
    obtain ⟨f0, f1, f2, f3, f4, f5⟩ := f
    have haC : ce.locals ≠ a := by
      rcases ha with z | z
      · rw [z]; exact f1
      · exact fun e => f4 y a z e.symm
    refine ⟨m, hn.sameBut sb haC, fun h3 sb3 => ?_⟩
    exact ⟨_, H', I2.turned (t' := s2.toks) (fun b o hb e => (sb3.2 b hb).trans e) f0 f1 f3 f4 f5, q'⟩
end
end MP
set_option Elab.async false
set_option linter.all false
set_option maxRecDepth 100000
namespace MP
open PySem PySem.Spec PyProof.Rows L2 LamX
theorem compGoX_of {f : D → Sto → Res (List D)} : ∀ {xs : List D} {st s2 : Sto} {ds : List D}, compGo xs f st = .ok ds s2 → compGoX xs f st = .ok ds s2
  | [], _, _, _, h => h
  | x :: xs, st, s2, ds, h => by
    obtain ⟨ys, s1, r, h1, h2, rfl⟩ := compGo_cons h
    show (f x st).bind _ = _
    rw [h1]
    show (compGoX xs f s1).bind _ = _
    rw [compGoX_of h2]
    rfl
theorem rzC_free {G : Sta} {N : List Str} {elt : Expr} {ifs : List Expr} {scope : Scope} (h : rzC G N elt ifs scope = true) : ∀ x ∈ scope.names, x.2 ≠ .free := fun x hx z => by
  unfold rzC nofree at h
  rw [Bool.and_eq_true] at h
  have := List.all_eq_true.mp h.2 x hx
  rw [z] at this
  exact absurd this (by decide)
theorem rzC_elt {G : Sta} {N : List Str} {elt : Expr} {ifs : List Expr} {scope : Scope} (h : rzC G N elt ifs scope = true) : ∃ f p x q cp i, elt = .Call (.Name f p) [.Name x q] [] cp ∧ ifs = [] ∧ G.isDef f = true ∧ G.isHnd f = false ∧ slot N f = none ∧ slot N x = some i := by
  unfold rzC at h
  rw [Bool.and_eq_true, Bool.and_eq_true] at h
  obtain ⟨⟨h1, h2⟩, _⟩ := h
  unfold rzS at h1
  split at h1
  · rename_i f p x q cp
    unfold rzD at h2
    simp only [Bool.and_eq_true, Bool.not_eq_true', Option.isNone_iff_eq_none] at h2
    obtain ⟨⟨⟨a, b⟩, c⟩, d⟩ := h2
    obtain ⟨i, d⟩ := Option.isSome_iff_exists.mp d
    exact ⟨f, p, x, q, cp, i, rfl, rfl, a, b, c, d⟩
  · cases h1
theorem Fr.wish {X : Cx} {N : List Str} {sc lsc : Scope} {e : Value → Shared → Prop} (f : Fr X N sc lsc) : Fr (X.wish e) N sc lsc := ⟨f.calm, f.nd, f.hN, f.hsc, f.loc, f.units⟩
theorem Wok.impE {mg : MG} {T : List (Addr × Str)} {E : XK} {α : Type} {m : MA} {H : Hp} {r : Res α} {κ : α → MA → Sto → Hp → Prop} (w : Wok mg T m H r κ E) (k : ∀ c d H, ¬ E c d H) : Wok mg T m H r κ E0 := by
  cases r with
  | ok a s => exact w
  | exc c s => exact fun m' H' x od o R e h => k _ _ _ (w m' H' x od o R e h)
  | bad => exact w
section
variable {X : Cx} {mg : MG} {T : List (Addr × Str)} {E : XK} {N : List Str}
theorem Wok.nobad {α : Type} {m : MA} {H : Hp} {κ : α → MA → Sto → Hp → Prop} (w : Wok mg T m H (.bad : Res α) κ E) : False := w
/-- [elt for tg in it if ..], the step may raise -/
theorem tlc_ofX {tg : Expr} {own : List Nat} {ri : Rho → Sto → Res (List D)} {rif : Rho → Sto → Res Bool} {re : Rho → Sto → Res D} {σ : L2.St} {H : Hp} {Q : VK} (P : D → Prop) (hP : ∀ ρ st xs s1, ri ρ st = .ok xs s1 → ∀ x ∈ xs, P x) (hsub : ∀ i ∈ tgS N tg, i ∈ own)
    (h : tX mg T E (fun ρ st => (ri ρ st).bind fun xs s1 => (compGoX xs (compF N own tg rif re ρ) s1).bind fun ds s4 => .ok (.list ds) s4) σ H Q) :
    tLc (tI mg T E ri) (gTp mg P N tg) (tT mg T E rif) (tX mg T E re) own σ H Q := by
  obtain ⟨m, ρ, st, Re, w⟩ := h
  refine ⟨m, ρ, st, Re, ?_⟩
  cases er : ri ρ st with
  | bad => dsimp only at w; rw [er] at w; exact w.elim
  | exc c s => dsimp only at w; rw [er] at w; exact w
  | ok xs s1 =>
  dsimp only at w
  rw [er] at w
  have hPx := hP ρ st xs s1 er
  intro m1 H1 R1 E1 J wk L hL
  have w1 : Wok mg T m1 H1 ((compGoX xs (compF N own tg rif re ρ) s1).bind fun ds s4 => .ok (.list ds) s4) (KV mg Q) E := Wok.later w E1
  have hLn := hid_ne R1 hL
  refine ⟨fun i n H => n + i = xs.length ∧ ∃ m' st' acc ads, BlkAt mg T L m1 H1 m' st' H acc ads ∧ ads.length ≤ i ∧ Wok mg T m1 H1 ((compGoX (xs.drop i) (compF N own tg rif re ρ) st').bind fun ds s4 => (Res.ok (PyData.list (ads ++ ds)) s4 : Res D)) (KV mg Q) E, ⟨xs.length, rfl, _, s1, [], [], BlkAt.start R1 hL, Nat.le_refl _, w1⟩, ?_⟩
  rintro i n H2 ⟨hn, m', st', acc, ads, B, hla, hw⟩
  by_cases hi : i < xs.length
  · refine .inr ?_
    have hxi : xs[i]? = some xs[i] := List.getElem?_eq_getElem hi
    rw [List.drop_eq_getElem_cons hi] at hw
    obtain ⟨k1, k2⟩ := wk.step i _ m' st' H2 B.ext B.rs hxi
    refine ⟨k1, fun H => ∃ m' st' acc ads, BlkAt mg T L m1 H1 m' st' H acc ads ∧ ads.length ≤ i + 1 ∧ Wok mg T m1 H1 ((compGoX (xs.drop (i + 1)) (compF N own tg rif re ρ) st').bind fun ds s4 => (Res.ok (PyData.list (ads ++ ds)) s4 : Res D)) (KV mg Q) E, fun H' hN => ⟨n - 1, by omega, by omega, hN⟩, fun v H3 hy => ?_⟩
    obtain ⟨R3, E3, rv⟩ := k2 v H3 hy
    have B3 := B.go R3 E3
    unfold compGoX compF at hw
    cases hb : bindT N tg xs[i] (wip ρ own) with
    | none => rw [hb] at hw; exact hw.elim
    | some ρ1 =>
      rw [hb] at hw
      dsimp only at hw
      have raise : ∀ {c : Str} {s : Sto} {m4 : MA} {H4 : Hp} {st4 : Sto} {α : Type} {κ : α → MA → Sto → Hp → Prop}, BlkAt mg T L m1 H1 m4 st4 H4 acc ads → Wok mg T m1 H1 (.exc c s : Res D) (KV mg Q) E → Wok mg T m4 H4 (.exc c s : Res α) κ E := by
        intro c s m4 H4 st4 α κ B4 w4 m5 H5 x od ho R5 E5 hx
        have B5 := B4.go R5 E5
        obtain ⟨r1, r2⟩ := B5.rs.show_ B5.hid
        exact w4 ⟨m5.l, m1.hid⟩ H5 x od ho r1 ⟨B5.ext.trans r2, rfl, B5.hk⟩ hx
      refine ⟨m', wip ρ own, xs[i], ρ1, ((Re.re.ext E1).ext0 B3.ext).wipe own, rv, hPx _ (List.getElem_mem hi), hb, fun σ2 re2 sm => ⟨same_wipe sm hsub, m', ρ1, st', ⟨R3, re2⟩, ?_⟩⟩
      cases e1 : rif ρ1 st' with
      | bad => rw [e1] at hw; exact hw.elim
      | exc c s => rw [e1] at hw; exact raise B3 hw
      | ok b s3 =>
        rw [e1] at hw
        intro m4 H4 R4 E4
        have B4 := B3.go R4 E4
        cases b with
        | false =>
          dsimp only
          rw [if_neg Bool.false_ne_true]
          refine ⟨m4, s3, acc, ads, B4, by omega, ?_⟩
          have hw : Wok mg T m1 H1 (((compGoX (xs.drop (i + 1)) (compF N own tg rif re ρ) s3).bind fun zs s2 => Res.ok ([] ++ zs) s2).bind fun ds s4 => (Res.ok (PyData.list (ads ++ ds)) s4 : Res D)) (KV mg Q) E := hw
          cases e4 : compGoX (xs.drop (i + 1)) (compF N own tg rif re ρ) s3 <;> rw [e4] at hw <;> exact hw
        | true =>
          dsimp only
          rw [if_pos rfl]
          refine ⟨m4, ρ1, s3, ⟨R4, re2.ext E4⟩, ?_⟩
          cases e2 : re ρ1 s3 with
          | bad =>
            exfalso
            dsimp only [Res.bind] at hw
            rw [e2] at hw
            exact hw
          | exc c s =>
            dsimp only [Res.bind] at hw
            rw [e2] at hw
            exact raise B4 hw
          | ok d s5 =>
            dsimp only [Res.bind] at hw
            rw [e2] at hw
            have hw : Wok mg T m1 H1 (((compGoX (xs.drop (i + 1)) (compF N own tg rif re ρ) s5).bind fun zs s2 => Res.ok ([d] ++ zs) s2).bind fun ds s4 => (Res.ok (PyData.list (ads ++ ds)) s4 : Res D)) (KV mg Q) E := hw
            intro m5 H5 R5 E5 y ry
            have B5 := B4.go R5 E5
            have hle : acc.length < sizeLine := by
              have := B5.rv.length
              have hw := wk.len
              rw [← lim_eq]
              omega
            refine ⟨acc, B5.at_, hle, m5, s5, _, _, B5.put hLn ry, by rw [List.length_append]; show _ + 1 ≤ _; omega, ?_⟩
            cases e4 : compGoX (xs.drop (i + 1)) (compF N own tg rif re ρ) s5 with
            | bad => rw [e4] at hw; exact hw
            | exc c s => rw [e4] at hw; exact hw
            | ok ds s6 =>
              rw [e4] at hw
              have e5 : ads ++ [d] ++ ds = ads ++ ([d] ++ ds) := List.append_assoc ..
              show Wok mg T m1 H1 (Res.ok (PyData.list (ads ++ [d] ++ ds)) s6 : Res D) _ _
              rw [e5]
              exact hw
  · refine .inl ?_
    have ei : i = xs.length := by omega
    subst ei
    rw [List.drop_length] at hw
    have hw : Wok mg T m1 H1 (.ok (.list (ads ++ [])) st') (KV mg Q) E := hw
    rw [List.append_nil] at hw
    refine ⟨wk.stop m' H2 B.ext, ?_⟩
    obtain ⟨f1, f2, f3⟩ := B.fin R1 hL (Nat.le_trans hla wk.len)
    exact hw _ _ f1 f2 _ f3
end
end MP
set_option Elab.async false
set_option linter.all false
set_option maxRecDepth 100000
set_option maxHeartbeats 1000000
namespace MP
open PySem PySem.Spec PyProof.Rows L2

def notComp : Expr → Bool
  | .ListComp _ _ _ _ => false
  | .SetComp _ _ _ _ => false
  | .DictComp _ _ _ _ _ => false
  | _ => true
def nmB (x : Str) : Bool := !(x == ("__debug__" : Str)) && !(x == ("__classdict__" : Str)) && !decide (x = ("__name__" : Str))
def visB (sc : Scope) (x : Str) : Bool := match sc.names.lookup x with
  | some .local => true
  | some .cell => true
  | some .free => true
  | _ => false
def glB (sc : Scope) (x : Str) : Bool := match sc.names.lookup x with
  | some .globalImplicit => true
  | _ => false
def plainO : Expr → Bool
  | .Name _ _ => true
  | .Constant _ _ _ => true
  | _ => false
/-- the handled exception, as a datum -/
abbrev dexc : D := dgl "!"
def exv (N : List Str) (ev : Str) (b : Bool) (ρ : Rho) (st : Sto) : Res D := match slot N ev with
  | some i => (match ρ[i]? with
    | some (some (.dict [(.str x, .none)])) => if x = "!" then .ok (.bool b) st else .bad
    | _ => .bad)
  | none => .bad
mutual
def evH (N : List Str) (ev : Str) (xt : Str → Option Bool) : Nat → Expr → Rho → Sto → Res D
  | 0, _, _, _ => .bad
  | n + 1, e, ρ, st => match e with
    | .Name x _ => (match slot N x with
      | some i => (match ρ[i]? with
        | some (some d) => .ok d st
        | _ => .bad)
      | none => .bad)
    | .Constant c _ _ => .lift (cst c) st
    | .List es _ => (evHL N ev xt n es ρ st).bind fun ds s1 => .ok (.list ds) s1
    | .BinOp a .Add b _ => (evH N ev xt n a ρ st).bind fun x s1 => (evH N ev xt n b ρ s1).bind fun y s2 => .lift (binop .Add x y) s2
    | .Call (.Name f _) [.Name y _, .Name c _] [] _ => if f = "isinstance" then (if y = ev then (match xt c with | some b => exv N ev b ρ st | none => .bad) else .bad) else .bad
    | .Call (.Attribute o m _) [a] [] _ => (evH N ev xt n o ρ st).bind fun x s1 => (match rcv m x s1 with
      | false => .bad
      | true => (evHL N ev xt n [a] ρ s1).bind fun ds s2 => if m = "append" then .bad else .lift (meth m x ds) s2)
    | .ListComp elt [⟨.Tuple ts k p, .Call (.Name z _) [a, b] [] _, [c], 0⟩] scope _ => if z = "zip" then
        ((evH N ev xt n a ρ st).bind fun x s1 => (evH N ev xt n b ρ s1).bind fun y s2 => match x, y with | .list xs, .list ys => .ok (zipL xs ys) s2 | _, _ => .bad).bind fun xs s1 =>
          (compGo xs (compF N ((ownSl N scope).map (·.2)) (.Tuple ts k p) (fun ρ st => (evH N ev (fun _ => none) n c ρ st).bind tob) (fun ρ st => evH N ev (fun _ => none) n elt ρ st) ρ) s1).bind fun ds s4 => .ok (.list ds) s4
      else .bad
    | _ => .bad
def evHL (N : List Str) (ev : Str) (xt : Str → Option Bool) : Nat → List Expr → Rho → Sto → Res (List D)
  | 0, _, _, _ => .bad
  | n + 1, es, ρ, st => match es with
    | [] => .ok [] st
    | e :: es => (evH N ev xt n e ρ st).bind fun d s1 => (evHL N ev xt n es ρ s1).bind fun ds s2 => .ok (d :: ds) s2
end
def exH (N : List Str) (ev : Str) (xt : Str → Option Bool) (n : Nat) : List Stmt → Rho → Sto → Res Fl
  | [], ρ, st => .ok (.nx ρ) st
  | .Assign [.Name x _] e _ :: ss, ρ, st => (evH N ev xt n e ρ st).bind fun d s1 => match slot N x with
    | some i => exH N ev xt n ss (ρ.set i (some d)) s1
    | none => .bad
  | .Return (some e) _ :: _, ρ, st => (evH N ev xt n e ρ st).bind fun d s1 => .ok (.rt d) s1
  | _, _, _ => .bad
mutual
def ckH (N : List Str) (ev : Str) : Nat → Scope → Expr → Bool
  | 0, _, _ => true
  | n + 1, sc, e => match e with
    | .Name x _ => nmB x && visB sc x && (slot N x).isSome
    | .Constant _ _ _ => true
    | .List es _ => decide (es.length ≤ 100) && ckHL N ev n sc es
    | .BinOp a .Add b _ => ckH N ev n sc a && ckH N ev n sc b
    | .Call (.Name f _) [.Name y _, .Name c _] [] _ => decide (f = "isinstance") && decide (y = ev) && glB sc f && glB sc c
    | .Call (.Attribute o m apos) [a] [] pos => plainO o && (decide (m = "split") || decide (m = "join")) && decide (apos.endLine = pos.line) && ckH N ev n sc o && noStar a && ckHL N ev n sc [a]
    | .ListComp elt [⟨.Tuple ts k p, .Call (.Name z _) [a, b] [] _, [c], 0⟩] scope _ => decide (z = "zip") && glB sc "zip" && noStar a && noStar b && ckH N ev n sc a && ckH N ev n sc b && blkC N sc scope (ownSl N scope) && ckTs scope ts &&
        ((tgS N (.Tuple ts k p)).all fun i => decide (i ∈ (ownSl N scope).map (·.2))) && (match c with | .Name _ _ => true | _ => false) && ckH N ev n (relS scope sc) c && ckH N ev n (relS scope sc) elt
    | _ => false
def ckHL (N : List Str) (ev : Str) : Nat → Scope → List Expr → Bool
  | 0, _, _ => true
  | n + 1, sc, es => match es with
    | [] => true
    | e :: es => noStar e && ckH N ev n sc e && ckHL N ev n sc es
end
def ckHS (N : List Str) (ev : Str) (n : Nat) (sc : Scope) : List Stmt → Bool
  | [] => true
  | .Assign [.Name x p] e _ :: ss => locB sc x && (slot N x).isSome && notComp e && ckH N ev n sc e && ckHS N ev n sc ss
  | .Return (some e) _ :: ss => ckH N ev n sc e
  | _ => false
/-- the def that calls what it gets and names the error -/
structure Catcher where
  g : Addr
  fd : FuncData
  pg : Arguments
  (a we ev nm : Str)
  Ng : List Str
  sg : Scope
  i : Nat
  (p1 p2 p3 p4 p5 p6 p7 p8 p9 p10 p11 p12 : Pos)
  j : Nat
  CS : Addr
  ng : Addr
  nfd : FuncData
  npg : Arguments
  np : Str
  nN : List Str
  nsg : Scope
  nbody : List Stmt
  nn : Nat
def Catcher.body (c : Catcher) : List Stmt := [.Try [.Expr (.Call (.Name c.a c.p1) [] [] c.p2) c.p3] [.ExceptHandler (some (.Name c.we c.p4)) (some c.ev) [.Return (some (.Call (.Name c.nm c.p5) [.Name c.ev c.p6] [] c.p7)) c.p8] c.p9] [] [] c.p10, .Return (some (.Constant (.str "") c.j c.p11)) c.p12]
/-- what isinstance says of the class C -/
def XtOk (K : PySem.W.Frag) (mg : MG) (C : Addr) (xt : Str → Option Bool) : Prop := ∀ cn b, xt cn = some b → (cn == ("__debug__" : Str)) = false ∧
  ((∃ cv, mg cn = some (.ref cv) ∧ PySem.W.kitOne K (.ref C) (.ref cv) = some b) ∨ (∃ tn, mg cn = none ∧ cn ≠ ("__name__" : Str) ∧ bootBuiltins cn = some (.type tn) ∧ PySem.W.kitOne K (.ref C) (.type tn) = some b))
structure HndF (K : PySem.W.Frag) (mg : MG) (hnd : Str → Option D) (c : Catcher) (f : Str) : Prop where
  at_ : mg f = some (.ref c.g)
  keep : PySem.W.keepIn K (.ref c.g) = true
  fun_ : ∃ q, FunD K f q c.pg c.body c.sg [] [] c.g c.fd
  bind : Binds K c.fd [c.a] []
  sc : FnScope c.Ng [c.a] c.sg
  n0 : c.Ng[0]? = some c.a
  ni : c.Ng[c.i]? = some c.ev
  i0 : c.i ≠ 0
  va : visB c.sg c.a = true
  le : c.sg.names.lookup c.ev = some .local
  gwe : glB c.sg c.we = true
  gnm : glB c.sg c.nm = true
  nb : nmB c.a = true ∧ nmB c.we = true ∧ nmB c.ev = true ∧ nmB c.nm = true
  mwe : mg c.we = some (.ref c.CS)
  mnm : mg c.nm = some (.ref c.ng)
  nkeep : PySem.W.keepIn K (.ref c.ng) = true
  nfun : ∃ q, FunD K c.nm q c.npg c.nbody c.nsg [] [] c.ng c.nfd
  nbind : Binds K c.nfd [c.np] []
  nsc : FnScope c.nN [c.np] c.nsg
  nn0 : c.nN[0]? = some c.np
  nva : visB c.nsg c.np = true
  nnb : nmB c.np = true
  nck : ckHS c.nN c.np c.nn c.nsg c.nbody = true
  cls : ∀ e d, hnd e = some d → e ≠ "TooMany" ∧ ∃ C txt xt, mg e = some (.ref C) ∧ d = .str txt ∧ PySem.W.exmOne K (.ref C) (.ref c.CS) = some true ∧ ExcC K C ∧ XtOk K mg C xt ∧ ∀ st, exH c.nN c.np xt c.nn c.nbody (startR c.nN [dexc]) st = .ok (.rt (.str txt)) st
end MP
set_option Elab.async false
set_option linter.all false
set_option maxRecDepth 100000
namespace MP
open PySem PySem.Spec PyProof.Rows L2 LamX

def tstB : Expr → Bool
  | .UnaryOp .Not a _ => tstB a
  | .IfExp _ _ _ _ => false
  | .Compare _ [_] [_] _ => true
  | .Compare _ [_, _] [_, _] _ => true
  | .Compare _ _ _ _ => false
  | _ => true
/-- the built-ins that are known -/
def bfs : List (Str × String) := [("len", "len"), ("any", "any"), ("all", "all"), ("sum", "sum"), ("min", "min"), ("max", "max")]
def bts : List (Str × String) := [("tuple", "tuple"), ("list", "list"), ("int", "int"), ("str", "str")]
def tys : List (Str × String) := [("int", "int"), ("bool", "bool"), ("str", "str"), ("list", "list"), ("tuple", "tuple")]
def mts : List Str := ["append", "count", "split", "join"]
def bnm : List Str := ["len", "any", "all", "tuple", "list", "int", "str", "bool", "isinstance", "range", "zip", "enumerate", "sorted", "set", "sum", "min", "max"]
def baseB (o : Expr) : Bool := plainO o || (match o with
  | .Call (.Name f _) _ _ _ => f != "super"
  | _ => false)
mutual
def ckE (G : Sta) (N : List Str) : Nat → Scope → Expr → Bool
  | 0, _, _ => true
  | n + 1, sc, e => match e with
    | .Name x _ => nmB x && (match slot N x with | some _ => visB sc x | none => glB sc x)
    | .Constant _ _ _ => true
    | .Tuple es _ _ => decide (es.length ≤ 100) && ckL G N n sc es
    | .List es _ => decide (es.length ≤ 100) && ckL G N n sc es
    | .BinOp a _ b _ => ckE G N n sc a && ckE G N n sc b
    | .UnaryOp _ a _ => ckE G N n sc a
    | .BoolOp _ es _ => ckB G N n sc es
    | .Compare a [op] [b] _ => ckE G N n sc a && ckE G N n sc b && !behindInMarks op b
    | .Compare a [_, op'] [b, c] _ => ckE G N n sc a && ckE G N n sc b && ckE G N n sc c && !behindInMarks op' c
    | .IfExp c a b _ => ckQ G N n sc c && ckE G N n sc a && ckE G N n sc b
    | .Subscript o (.Slice lo hi none _) _ => ckE G N n sc o && ckO G N n sc lo && ckO G N n sc hi
    | .Subscript o (.Slice none none (some (.UnaryOp .USub (.Constant (.int 1) _ _) _)) _) _ => ckE G N n sc o
    | .Subscript _ (.Slice _ _ (some _) _) _ => false
    | .Subscript o i _ => ckE G N n sc o && ckE G N n sc i
    | .ListComp elt [⟨tg, it, ifs, 0⟩] scope _ => blkC N sc scope (ownSl N scope) && ckT scope tg && ((tgS N tg).all fun i => decide (i ∈ (ownSl N scope).map (·.2))) && ckI G N n sc tg it && ckIf G N n (relS scope sc) ifs && ckE G N n (relS scope sc) elt
    | .Call (.Name f _) args [] _ => nmB f && (match slot N f with
      | some _ => visB sc f && !args.isEmpty && args.all noStar && ckL G N n sc args
      | none => glB sc f && args.all noStar && (if G.isHnd f then (match args with
          | [.Lambda ⟨[], [], none, [], [], none, []⟩ body scope _] => lamSB sc scope && ckE G.noH N n scope body
          | _ => false)
        else if G.isDef f then ckL G N n sc args
        else if G.isX f then !args.isEmpty && ckL G N n sc args
        else if f = "isinstance" then (match args with
          | [a, .Name t _] => noStar a && glB sc t && (G.isCls t || decide (t ∈ tys.map (·.1))) && ckE G N n sc a
          | _ => false)
        else if f = "sorted" then (match args with
          | [.Call (.Name g _) [a] [] _] => decide (g = "set") && glB sc "set" && noStar a && ckE G N n sc a
          | _ => false)
        else (decide (f ∈ bfs.map (·.1)) || decide (f ∈ bts.map (·.1))) && !args.isEmpty && ckL G N n sc args))
    | .Call (.Attribute o m apos) args [] pos => plainO o && decide (m ∈ mts) && decide (apos.endLine = pos.line) && ckE G N n sc o && decide (args.length = 1) && args.all noStar && ckL G N n sc args
    | .Attribute o a _ => G.isAt a && baseB o && ckE G N n sc o
    | _ => false
def ckL (G : Sta) (N : List Str) : Nat → Scope → List Expr → Bool
  | 0, _, _ => true
  | n + 1, sc, es => match es with
    | [] => true
    | e :: es => noStar e && ckE G N n sc e && ckL G N n sc es
def ckB (G : Sta) (N : List Str) : Nat → Scope → List Expr → Bool
  | 0, _, _ => true
  | n + 1, sc, es => match es with
    | [] => true
    | e :: es => tstB e && ckE G N n sc e && ckB G N n sc es
def ckQ (G : Sta) (N : List Str) : Nat → Scope → Expr → Bool
  | 0, _, _ => true
  | n + 1, sc, e => tstB e && ckE G N n sc e
def ckIf (G : Sta) (N : List Str) : Nat → Scope → List Expr → Bool
  | 0, _, _ => true
  | n + 1, sc, es => match es with
    | [] => true
    | [c] => ckQ G N n sc c
    | _ => false
def ckO (G : Sta) (N : List Str) : Nat → Scope → Option Expr → Bool
  | 0, _, _ => true
  | n + 1, sc, o => match o with
    | none => true
    | some e => ckE G N n sc e
def ckI (G : Sta) (N : List Str) : Nat → Scope → Expr → Expr → Bool
  | 0, _, _, _ => true
  | n + 1, sc, tg, e => match e with
    | .Call (.Name f p) [a] [] pos => if f = "range" then noStar a && glB sc "range" && ckE G N n sc a
      else if f = "enumerate" then noStar a && glB sc "enumerate" && ckE G N n sc a && (match tg with | .Tuple _ _ _ => true | _ => false)
      else ckE G N n sc (.Call (.Name f p) [a] [] pos)
    | .Call (.Name f p) [a, b] [] pos => if f = "range" then noStar a && noStar b && glB sc "range" && ckE G N n sc a && ckE G N n sc b
      else if f = "zip" then noStar a && noStar b && glB sc "zip" && ckE G N n sc a && ckE G N n sc b && (match tg with | .Tuple _ _ _ => true | _ => false)
      else ckE G N n sc (.Call (.Name f p) [a, b] [] pos)
    | .Set _ _ _ => false
    | e => ckE G N n sc e
end
/-- a further name that is called -/
def XR (P : Program) (w : World) (K : PySem.W.Frag) (mg : MG) (base : Heap) (T : List (Addr × Str)) (f : Str) (ap : List D → Option D) : Prop :=
  ∀ (X : Cx) (E : XK) (e : Expr) (es : List Expr) (rl : Rho → Sto → Res (List D)) (p pos : Pos), X.prog = P → X.w = w → X.K = K → X.mg = mg → X.base = base → L2N.Takes X (fun c d _ H => E c d H) → Room 2 X.A → X.calm = true → X.A.units + 64 < cLine → Gl X f → (f == ("__debug__" : Str)) = false →
    (e :: es).all noStar = true → PA X (e :: es) (tL mg T E rl) → PE X (.Call (.Name f p) (e :: es) [] pos) (tX mg T E fun ρ st => (rl ρ st).bind fun ds s1 => .lift (ap ds) s1)
/-- an attribute that is read -/
def AR (P : Program) (w : World) (K : PySem.W.Frag) (mg : MG) (base : Heap) (T : List (Addr × Str)) (n : Str) (ap : D → Option D) : Prop :=
  ∀ (X : Cx) (E : XK) (e : Expr) (re : Rho → Sto → Res D) (pos : Pos), X.prog = P → X.w = w → X.K = K → X.mg = mg → X.base = base → attributeBase e n X.env (eval e X.env) = eval e X.env → PE X e (tX mg T E re) → PE X (.Attribute e n pos) (tX mg T E fun ρ st => (re ρ st).bind fun x s1 => .lift (ap x) s1)
/-- a class that isinstance asks for -/
def IscF (K : PySem.W.Frag) (mg : MG) (t : Str) (sub : Str → Option Bool) : Prop := (t == ("__debug__" : Str)) = false ∧
  ((∃ D, mg t = some (.ref D) ∧ ∀ c b, sub c = some b → ∃ C, mg c = some (.ref C) ∧ ExcC K C ∧ PySem.W.kitOne K (.ref C) (.ref D) = some b) ∨
   (∃ tn, mg t = none ∧ t ≠ ("__name__" : Str) ∧ bootBuiltins t = some (.type tn) ∧ ∀ c b, sub c = some b → ∃ C, mg c = some (.ref C) ∧ ExcC K C ∧ PySem.W.kitOne K (.ref C) (.type tn) = some b))
/-- what the module's names stand for -/
structure GF (P : Program) (w : World) (K : PySem.W.Frag) (mg : MG) (base : Heap) (G : Glb) (T : List (Addr × Str)) (k : Nat) : Prop where
  dfn : ∀ x, G.isDef x = true → ∃ f fd ps, mg x = some (.ref f) ∧ PySem.W.keepIn K (.ref f) = true ∧ Binds K fd ps [] ∧ (∀ ds st, ds.length ≠ ps.length → G.call x ds st = .bad) ∧ FnOk P w K mg base (L2N.CX P w) k f fd ps (spI mg T (G.call x) ps.length)
  cst : ∀ x d, G.cst x = some d → ∃ v u, mg x = some u ∧ RelV v u ∧ ∀ m H, RV mg m H v d
  blt : ∀ x ∈ bnm, mg x = none
  nob : mg "!" = none
  hnd : ∀ f, G.isHnd f = true → ∃ c, HndF K mg G.hnd c f
  exc : ∀ x, G.isExc x = true → ∃ C bmB B newId initId, mg x = some (.ref C) ∧ PySem.W.keepIn K (.ref C) = true ∧ PySem.W.excIn K C bmB newId = true ∧ ExcBaseFacts B newId initId bmB ∧ PySem.W.subIn K (.ref C) (.type "BaseException") = some true ∧ PySem.W.typeIn K (.ref C) = some (.type "type")
  xr : ∀ f, G.isX f = true → XR P w K mg base T f (G.xap f)
  isc : ∀ t, G.isCls t = true → IscF K mg t fun c => G.isub c t
  atr : ∀ n, G.isAt n = true → AR P w K mg base T n (G.atf n)
/-- a lambda may be made here -/
structure LamOk (X : Cx) (T : List (Addr × Str)) (k : Nat) : Prop where
  room : Room (k + 6) X.A
  code : ∃ c P, X.env.code = .ref c ∧ TabB X.base X.mg c P ∧ (P, X.env.qual ++ "<lambda>") ∈ T ∧ ∀ p ∈ T, p.1 = P → p.2 = X.env.qual ++ "<lambda>"
structure Cn (X : Cx) (N : List Str) (sc lsc : Scope) (G : Glb) (T : List (Addr × Str)) (k : Nat) (E : XK) : Prop where
  fr : Fr X N sc lsc
  tk : L2N.Takes X (fun c d _ H => E c d H)
  stk : (X.stack = X.env :: X.outer ∧ X.env.frame = some X.env.locals) ∨ ∀ c d H, ¬ E c d H
  room : Room k X.A
  room2 : Room 2 X.A
  gf : GF X.prog X.w X.K X.mg X.base G T k
  lam : ∀ f, G.isHnd f = true → LamOk X T k
theorem nmB_of {x : Str} (h : nmB x = true) : (x == ("__debug__" : Str)) = false ∧ (x == ("__classdict__" : Str)) = false ∧ x ≠ ("__name__" : Str) := by
  unfold nmB at h
  simp only [Bool.and_eq_true, Bool.not_eq_true', decide_eq_false_iff_not] at h
  exact ⟨h.1.1, h.1.2, h.2⟩
section
variable {X : Cx} {N : List Str} {sc lsc : Scope} {G : Glb} {T : List (Addr × Str)} {k : Nat} {E : XK}
theorem Fr.vis (F : Fr X N sc lsc) {x : Str} (h : visB sc x = true) : Vis X.env.scope x := by
  rw [F.hsc]
  unfold visB at h
  split at h
  · exact .inl (by assumption)
  · exact .inr (.inl (by assumption))
  · exact .inr (.inr (by assumption))
  · cases h
theorem Fr.gl (F : Fr X N sc lsc) {x : Str} (h : glB sc x = true) : Gl X x := by
  show X.env.scope.names.lookup x = _
  rw [F.hsc]
  unfold glB at h
  split at h
  · assumption
  · cases h
theorem Cn.blk (c : Cn X N sc lsc G T k E) {scope : Scope} {s : Shared} {H : Hp} {C : Addr} {cl : List (Str × Addr)} {fp : List Addr} : Cn (X.blk s H scope (compEnvC scope cl C X.env) fp) N (relS scope sc) scope G T k E0 where
  fr := ⟨c.fr.calm, c.fr.nd, c.fr.hN, by
      show relS scope X.env.scope = _
      rw [c.fr.hsc], fun x h => (by
      show Loc (relS scope X.env.scope) x ∧ ((scope.names.lookup x == some .cell) = true ∨ (relS scope X.env.scope).names.lookup x = some .local)
      unfold locB at h
      split at h
      · rename_i e
        have := lookup_relS_keep (sc := X.env.scope) (by decide) e
        exact ⟨.inl this, .inr this⟩
      · rename_i e
        have := lookup_relS_keep (sc := X.env.scope) (by decide) e
        exact ⟨.inr this, .inl (by rw [e]; rfl)⟩
      · cases h), c.fr.units⟩
  tk := fun u s' ⟨_, _, _, _, _, _, _, _, _, _, _, _, _, _, _, _, w⟩ => w.elim
  stk := .inr fun _ _ _ z => z
  room := c.room
  room2 := c.room2
  gf := c.gf
  lam := fun f hf => ⟨(c.lam f hf).room, (c.lam f hf).code⟩
end
end MP
set_option Elab.async false
set_option linter.all false
set_option maxRecDepth 100000
set_option maxHeartbeats 1000000
namespace MP
open PySem PySem.Spec PyProof.Rows L2 LamX
section
variable {X : Cx} {mg : MG} {T : List (Addr × Str)} {E : XK} {ra : Rho → Sto → Res D}
theorem base_of2 {o : Expr} {m : Str} {env : Env} (h : baseB o = true) : attributeBase o m env (eval o env) = eval o env := by
  unfold baseB at h
  rw [Bool.or_eq_true] at h
  rcases h with h | h
  · cases o <;> first | rfl | (exact Bool.noConfusion (show false = true from h))
  · split at h
    · rename_i f p args ks pos
      unfold attributeBase
      split
      · rename_i id q q2 e
        cases e
        rw [h]
        rfl
      · rfl
    · cases h
theorem isEx_some {sub : Str → Str → Option Bool} {t : Str} {m : MA} {H : Hp} {v : V} {x : D} {b : Bool} (rv : RV mg m H v x) (e : isEx sub t x = some b) : ∃ a C c, v = .ref a ∧ mg c = some (.ref C) ∧ exHas H a C ∧ sub c t = some b := by
  cases rv with
  | ex h h1 h2 _ _ => exact ⟨_, _, _, rfl, h, .inl ⟨_, h1⟩, e⟩
  | et h h1 h2 _ _ => exact ⟨_, _, _, rfl, h, .inr ⟨_, _, h1, h2⟩, e⟩
  | _ => cases e
theorem pe_isx {a : Expr} {t : Str} {p q pos : Pos} {sub : Str → Str → Option Bool} (F : IscF X.K X.mg t fun c => sub c t) (hg : Gl X "isinstance") (hm : X.mg "isinstance" = none) (hgt : Gl X t) (hn : noStar a = true) (ha : PE X a (tX X.mg T E ra)) :
    PE X (.Call (.Name "isinstance" p) [a, .Name t q] [] pos) (tX X.mg T E fun ρ st => (ra ρ st).bind fun x s1 => .lift ((isEx sub t x).map .bool) s1) := by
  obtain ⟨hdb, F⟩ := F
  rcases F with ⟨D, hmt, F⟩ | ⟨tn, hmt, hnn, hb, F⟩
  · have hT : PE X (.Name t q) (tC (.ref D)) := pe_glob hgt hmt rfl hdb
    refine PE.mono (pe_callB (call_isX (D := .ref D)) hg hm (by decide +kernel) (pa_cons ha (pa_cons hT pa_nil rfl) (star_cons hn)) (by decide) (by decide) (star_cons hn) (by rfl)) fun σ H Q h => ?_
    obtain ⟨m, ρ, st, R, w⟩ := h
    refine ⟨m, ρ, st, R, w.bind.imp fun x m1 s1 H1 R1 E1 w1 v rv => ?_⟩
    obtain ⟨d, e, w1⟩ := w1.lift
    rw [Option.map_eq_some_iff] at e
    obtain ⟨b, e, rfl⟩ := e
    obtain ⟨a', C, c, rfl, hc, hx, es⟩ := isEx_some rv e
    obtain ⟨C', hc', hE, hk⟩ := F c b es
    rw [hc] at hc'
    cases hc'
    exact ⟨a', C, _, b, rfl, fun u r => r, hx, hE, hk, w1.now R1 _ (.bl b)⟩
  · have hT : PE X (.Name t q) (tC (.ty tn)) := pe_bltn hgt hmt hb rfl hnn hdb
    refine PE.mono (pe_callB (call_isX (D := .type tn)) hg hm (by decide +kernel) (pa_cons ha (pa_cons hT pa_nil rfl) (star_cons hn)) (by decide) (by decide) (star_cons hn) (by rfl)) fun σ H Q h => ?_
    obtain ⟨m, ρ, st, R, w⟩ := h
    refine ⟨m, ρ, st, R, w.bind.imp fun x m1 s1 H1 R1 E1 w1 v rv => ?_⟩
    obtain ⟨d, e, w1⟩ := w1.lift
    rw [Option.map_eq_some_iff] at e
    obtain ⟨b, e, rfl⟩ := e
    obtain ⟨a', C, c, rfl, hc, hx, es⟩ := isEx_some rv e
    obtain ⟨C', hc', hE, hk⟩ := F c b es
    rw [hc] at hc'
    cases hc'
    exact ⟨a', C, _, b, rfl, fun u r => r, hx, hE, hk, w1.now R1 _ (.bl b)⟩
end
end MP
set_option Elab.async false
set_option linter.all false
set_option maxRecDepth 100000
namespace MP
open PySem PySem.Spec PyProof.Rows L2 LamX

structure Snd (G : Glb) (N : List Str) (T : List (Addr × Str)) (n : Nat) : Prop where
  e : ∀ {X : Cx} {sc lsc : Scope} {k : Nat} {E : XK} (e : Expr), Cn X N sc lsc G T k E → ckE G N n sc e = true → PE X e (tX X.mg T E (evalE G N n e))
  t : ∀ {X : Cx} {sc lsc : Scope} {k : Nat} {E : XK} (e : Expr), Cn X N sc lsc G T k E → ckE G N n sc e = true → tstB e = true → PT X e (tT X.mg T E fun ρ st => (evalE G N n e ρ st).bind tob)
  l : ∀ {X : Cx} {sc lsc : Scope} {k : Nat} {E : XK} (es : List Expr), Cn X N sc lsc G T k E → ckL G N n sc es = true → PA X es (tL X.mg T E (evalL G N n es))
  b : ∀ {X : Cx} {sc lsc : Scope} {k : Nat} {E : XK} (op : BoolOp) (pos : Pos) (es : List Expr), Cn X N sc lsc G T k E → ckB G N n sc es = true → PE X (.BoolOp op es pos) (tX X.mg T E (evalB G N n op es)) ∧ PW X (.BoolOp op es pos) (tT X.mg T E fun ρ st => (evalB G N n op es ρ st).bind tob)
  o : ∀ {X : Cx} {sc lsc : Scope} {k : Nat} {E : XK} (o : Option Expr), Cn X N sc lsc G T k E → ckO G N n sc o = true → PO X o (tOI X.mg T E (evalO G N n o))
  i : ∀ {X : Cx} {sc lsc : Scope} {k : Nat} {E : XK} (tg e : Expr), Cn X N sc lsc G T k E → ckI G N n sc tg e = true → PI X tg e (tI X.mg T E (evalI G N n e)) ∧ (n ≠ 0 → ∀ env x, foldedSetIterable e env x = pure x)
section
variable {X : Cx} {T : List (Addr × Str)} {E : XK} {G : Glb} {N : List Str}
theorem pe_bad {mg : MG} {e : Expr} {r : Rho → Sto → Res D} (h : ∀ ρ st, r ρ st = .bad) : PE X e (tX mg T E r) := ⟨fun pins s σ H Q I w => by
  obtain ⟨m, ρ, st, R, w⟩ := w
  rw [h] at w
  exact w.elim⟩
theorem pt_bad {mg : MG} {e : Expr} {r : Rho → Sto → Res Bool} (h : ∀ ρ st, r ρ st = .bad) : PT X e (tT mg T E r) := ⟨fun pins s σ H Q I w => by
  obtain ⟨m, ρ, st, R, w⟩ := w
  rw [h] at w
  exact w.elim⟩
theorem pw_bad {mg : MG} {e : Expr} {r : Rho → Sto → Res Bool} (h : ∀ ρ st, r ρ st = .bad) : PW X e (tT mg T E r) := ⟨fun _ pins s σ H Q I w => by
  obtain ⟨m, ρ, st, R, w⟩ := w
  rw [h] at w
  exact w.elim⟩
theorem pa_bad {mg : MG} {e : List Expr} {r : Rho → Sto → Res (List D)} (h : ∀ ρ st, r ρ st = .bad) : PA X e (tL mg T E r) := ⟨fun _ pins s σ H Q I w => by
  obtain ⟨m, ρ, st, R, w⟩ := w
  rw [h] at w
  exact w.elim⟩
theorem po_bad {mg : MG} {e : Option Expr} {r : Rho → Sto → Res (Option Int)} (h : ∀ ρ st, r ρ st = .bad) : PO X e (tOI mg T E r) := ⟨fun pins s σ H Q I w => by
  obtain ⟨m, ρ, st, R, w⟩ := w
  rw [h] at w
  exact w.elim⟩
theorem pi_bad {mg : MG} {tg e : Expr} {r : Rho → Sto → Res (List D)} (h : ∀ ρ st, r ρ st = .bad) : PI X tg e (tI mg T E r) := ⟨fun pins s σ H Q I w => by
  obtain ⟨m, ρ, st, R, w⟩ := w
  rw [h] at w
  exact w.elim⟩
theorem snd_l {n : Nat} (S : Snd G N T n) {sc lsc : Scope} {k : Nat} (es : List Expr) (c : Cn X N sc lsc G T k E) (h : ckL G N (n + 1) sc es = true) : PA X es (tL X.mg T E (evalL G N (n + 1) es)) := by
  cases es with
  | nil => exact pa_nil1
  | cons e es =>
    have h' : (noStar e && ckE G N n sc e && ckL G N n sc es) = true := h
    simp only [Bool.and_eq_true] at h'
    exact pa_cons1 h'.1.1 (S.e e c h'.1.2) (S.l es c h'.2)
theorem snd_o {n : Nat} (S : Snd G N T n) {sc lsc : Scope} {k : Nat} (o : Option Expr) (c : Cn X N sc lsc G T k E) (h : ckO G N (n + 1) sc o = true) : PO X o (tOI X.mg T E (evalO G N (n + 1) o)) := by
  cases o with
  | none => exact po_none1
  | some e => exact po_some1 (S.e e c h)
theorem snd_b {n : Nat} (S : Snd G N T n) {sc lsc : Scope} {k : Nat} (op : BoolOp) (pos : Pos) (es : List Expr) (c : Cn X N sc lsc G T k E) (h : ckB G N (n + 1) sc es = true) :
    PE X (.BoolOp op es pos) (tX X.mg T E (evalB G N (n + 1) op es)) ∧ PW X (.BoolOp op es pos) (tT X.mg T E fun ρ st => (evalB G N (n + 1) op es ρ st).bind tob) := by
  cases es with
  | nil => exact ⟨pe_bad fun _ _ => rfl, pw_bad fun _ _ => rfl⟩
  | cons e es =>
    have h' : (tstB e && ckE G N n sc e && ckB G N n sc es) = true := h
    simp only [Bool.and_eq_true] at h'
    cases es with
    | nil => exact ⟨pe_one (S.e e c h'.1.2), pw_bo1 (S.t e c h'.1.2 h'.1.1)⟩
    | cons e2 es =>
      obtain ⟨b1, b2⟩ := S.b op pos (e2 :: es) c h'.2
      have ee : evalB G N (n + 1) op (e :: e2 :: es) = fun ρ st => (evalE G N n e ρ st).bind fun d s1 => stB op (evalB G N n op (e2 :: es)) ρ d s1 := by
        funext ρ st
        rfl
      rw [ee]
      exact ⟨pe_bo (S.e e c h'.1.2) b1, pw_bo (S.t e c h'.1.2 h'.1.1) b2⟩
theorem evalL_len {ρ : Rho} : ∀ {n : Nat} {es : List Expr} {st s : Sto} {ds : List D}, evalL G N n es ρ st = .ok ds s → ds.length = es.length
  | 0, _, _, _, _, h => by cases h
  | n + 1, [], _, _, _, h => by cases h; rfl
  | n + 1, e :: es, _, _, _, h => by
    obtain ⟨d, s1, _, h⟩ := bind_ok_inv (show ((evalE G N n e ρ _).bind fun d s1 => (evalL G N n es ρ s1).bind fun ds s2 => .ok (d :: ds) s2) = _ from h)
    obtain ⟨r, s2, h1, h⟩ := bind_ok_inv h
    cases h
    rw [List.length_cons, List.length_cons, evalL_len h1]
theorem snd_i {n : Nat} (S : Snd G N T n) {sc lsc : Scope} {k : Nat} (tg e : Expr) (c : Cn X N sc lsc G T k E) (h : ckI G N (n + 1) sc tg e = true) : PI X tg e (tI X.mg T E (evalI G N (n + 1) e)) ∧ ∀ env x, foldedSetIterable e env x = pure x := by
  have blt : ∀ x ∈ bnm, X.mg x = none := c.gf.blt
  unfold ckI at h
  split at h
  · rename_i f p a pos
    refine ⟨?_, fun _ _ => rfl⟩
    split at h
    · rename_i hf
      subst hf
      simp only [Bool.and_eq_true] at h
      have ee : evalI G N (n + 1) (.Call (.Name "range" p) [a] [] pos) = fun ρ st => (evalE G N n a ρ st).bind fun x s1 => match x with | .int j => if rngOk 0 j then .ok (rngL 0 j) s1 else .bad | _ => .bad := by
        funext ρ st
        simp only [evalI, if_true]
        all_goals rfl
      rw [ee]
      exact pi_rng1 (c.fr.gl h.1.2) (blt _ (by decide)) (S.e a c h.2) (star_cons h.1.1)
    · split at h
      · rename_i h1 hf
        subst hf
        simp only [Bool.and_eq_true] at h
        cases tg with
        | Tuple es kk tp =>
          have ee : evalI G N (n + 1) (.Call (.Name "enumerate" p) [a] [] pos) = fun ρ st => (evalE G N n a ρ st).bind fun x s1 => match asSeq x with | some xs => .ok (enumL xs) s1 | none => .bad := by
            funext ρ st
            simp only [evalI, if_true]
            rw [if_neg h1]
            all_goals rfl
          rw [ee]
          exact pi_enum1 (c.fr.gl h.1.1.2) (blt _ (by decide)) (S.e a c h.1.2) (star_cons h.1.1.1)
        | _ => exact Bool.noConfusion h.2
      · rename_i h1 h2
        have ee : evalI G N (n + 1) (.Call (.Name f p) [a] [] pos) = fun ρ st => (evalE G N n (.Call (.Name f p) [a] [] pos) ρ st).bind fun x s1 => .lift (asIt x) s1 := by
          funext ρ st
          simp only [evalI]
          rw [if_neg h1, if_neg h2]
        rw [ee]
        exact pi_val (S.e _ c h)
  · rename_i f p a b pos
    refine ⟨?_, fun _ _ => rfl⟩
    split at h
    · rename_i hf
      subst hf
      simp only [Bool.and_eq_true] at h
      have ee : evalI G N (n + 1) (.Call (.Name "range" p) [a, b] [] pos) = fun ρ st => (evalE G N n a ρ st).bind fun x s1 => (evalE G N n b ρ s1).bind fun y s2 => match x, y with | .int i, .int j => if rngOk i j then .ok (rngL i j) s2 else .bad | _, _ => .bad := by
        funext ρ st
        simp only [evalI, if_true]
        all_goals rfl
      rw [ee]
      exact pi_rng2 (c.fr.gl h.1.1.2) (blt _ (by decide)) (S.e a c h.1.2) (S.e b c h.2) (by rw [star_cons h.1.1.1.1, star_cons h.1.1.1.2]; rfl) (star_cons h.1.1.1.2)
    · split at h
      · rename_i h1 hf
        subst hf
        simp only [Bool.and_eq_true] at h
        cases tg with
        | Tuple es kk tp =>
          have ee : evalI G N (n + 1) (.Call (.Name "zip" p) [a, b] [] pos) = fun ρ st => (evalE G N n a ρ st).bind fun x s1 => (evalE G N n b ρ s1).bind fun y s2 => match asSeq x, asSeq y with | some xs, some ys => .ok (zipL xs ys) s2 | _, _ => .bad := by
            funext ρ st
            simp only [evalI, if_true]
            rw [if_neg h1]
            all_goals rfl
          rw [ee]
          exact pi_zip1 (c.fr.gl h.1.1.1.2) (blt _ (by decide)) (S.e a c h.1.1.2) (S.e b c h.1.2) (star_cons h.1.1.1.1.1) (star_cons h.1.1.1.1.2)
        | _ => exact Bool.noConfusion h.2
      · rename_i h1 h2
        have ee : evalI G N (n + 1) (.Call (.Name f p) [a, b] [] pos) = fun ρ st => (evalE G N n (.Call (.Name f p) [a, b] [] pos) ρ st).bind fun x s1 => .lift (asIt x) s1 := by
          funext ρ st
          simp only [evalI]
          rw [if_neg h1, if_neg h2]
        rw [ee]
        exact pi_val (S.e _ c h)
  · cases h
  · rename_i z n1 n2 n3
    have ee : evalI G N (n + 1) e = fun ρ st => (evalE G N n e ρ st).bind fun x s1 => .lift (asIt x) s1 := by
      funext ρ st
      unfold evalI
      split
      · exact (n1 _ _ _ _ rfl).elim
      · exact (n2 _ _ _ _ _ rfl).elim
      · rfl
    rw [ee]
    refine ⟨pi_val (S.e _ c h), fun env x => ?_⟩
    unfold foldedSetIterable
    split
    · exact (n3 _ _ _ rfl).elim
    · rfl
end
section
variable {X : Cx} {T : List (Addr × Str)}
theorem plainIx_of {i : Expr} (h : ∀ a b p, i ≠ .Slice a b none p) : PlainIx i := by
  intro o v
  unfold subscripted
  split
  · exact (h _ _ _ rfl).elim
  · cases ‹false = true›
  · rfl
theorem base_of {o : Expr} {m : Str} {env : Env} (h : plainO o = true) : attributeBase o m env (eval o env) = eval o env := by
  cases o <;> first | rfl | (exact Bool.noConfusion (show false = true from h))
theorem few_of {a : Expr} {cpos : Pos} {env : Env} (h : noStar a = true) : ((backTo cpos (starEach [a] env)).all (fun x => !x.1) && (backToKw cpos (keywordEach [] env)).all (fun x => x.1.isSome)
      && decide ([a].length + ([] : List Keyword).length + (if ([] : List Keyword).isEmpty then 0 else 1) < 30)) = true := by
  rw [star_cons h]
  rfl
theorem rcv_ty {mg : MG} {m : Str} {x : D} {v : V} {m1 : MA} {s1 : Sto} {H1 : Hp} (R : RS mg T m1 s1 H1) (rv : RV mg m1 H1 v x) (h : rcv m x s1 = true) :
    (m = "append" ∨ m = "count" → tyV X.K "list" v H1) ∧ (m ≠ "append" → m ≠ "count" → tyV X.K "str" v H1) := by
  unfold rcv at h
  split at h
  · rename_i e
    refine ⟨fun _ => ?_, fun z => absurd e z⟩
    split at h
    · split at h
      · rename_i n xs e2
        obtain ⟨a, vs, rfl, h1, h2, h3, h4, h5⟩ := rv.at_obj R e2
        exact .inl ⟨rfl, vs, .of h2⟩
      · cases h
    · cases h
  · rename_i ne
    split at h
    · rename_i e
      refine ⟨fun _ => ?_, fun _ z => absurd e z⟩
      split at h
      · cases rv with
        | lst h1 n1 l1 t1 => exact .inl ⟨rfl, _, .inl h1⟩
      · split at h
        · rename_i n xs e2
          obtain ⟨a, vs, rfl, h1, h2, h3, h4, h5⟩ := rv.at_obj R e2
          exact .inl ⟨rfl, vs, .of h2⟩
        · cases h
      · cases h
    · rename_i ne2
      refine ⟨fun z => (z.elim ne ne2).elim, fun _ _ => ?_⟩
      split at h
      · cases rv
        rfl
      · cases h
end
theorem re_start {mg : MG} {m : MA} {H : Hp} {vs : List V} {ds : List D} (h : RVs mg m H vs ds) (N : List Str) : RE mg m H (startR N ds) (L2.start N vs) := by
  have hl := h.length
  refine ⟨by simp [startR, L2.start, hl], fun i d hd => ?_⟩
  unfold startR at hd
  by_cases hi : i < ds.length
  · rw [List.getElem?_append_left (by rw [List.length_map]; exact hi), List.getElem?_map] at hd
    cases e : ds[i]? with
    | none => rw [e] at hd; cases hd
    | some d' =>
      rw [e] at hd
      cases hd
      obtain ⟨v, h1, h2⟩ := h.get e
      refine ⟨v, ?_, h2⟩
      unfold L2.start
      rw [List.getElem?_append_left (by rw [List.length_map]; omega), List.getElem?_map, h1]
      rfl
  · rw [List.getElem?_append_right (by rw [List.length_map]; omega), List.getElem?_replicate] at hd
    split at hd <;> cases hd
end MP
set_option Elab.async false
set_option linter.all false
set_option maxRecDepth 100000
set_option maxHeartbeats 4000000
namespace MP
open PySem PySem.Spec PyProof.Rows L2
/-- a new set -/
abbrev newSet (w : World) : Obj := { cls := .type "set", dict := none, data := .set #[] 0 (.fresh 0 0 (!w.params.followText "set-order")) }
section
variable {P : Program} {w : World} {A : Around} {E : Value → Shared → Prop} {s : Shared}
theorem fill_set {l : Addr} {items : Array Value} (ns : List Int) {R : Result → Shared → Prop} (hh : A.handled = none) (hl : s.heap.IsList l items) (hit : IntsAre items.toList ns) (hb : ns.length + 1 < scanBound)
    (h : ∀ (h' : Heap) (tk c : Nat), SetR w h' s.heap.objs.size (fun j => decide (j ∈ ns)) c → c ≤ ns.length → (∀ b o, s.heap.get? b = some o → h'.get? b = some o) → R (.ok (.ret .none)) { s with heap := h', toks := tk }) :
    codeAny (model P w) A (.builtin "set.update.loop" ⟨[.ref s.heap.objs.size, .ref (s.heap.objs.size + 1)], []⟩) R { s with heap := (s.heap.push (newSet w)).push { cls := .type "list_iterator", data := .fields #[.ref l, .int 0 0] } } := by
  obtain ⟨ol, hol, hr⟩ := id hl
  have hlS : l < s.heap.objs.size := Heap.lt_size hol
  have hisz : items.size = ns.length := by
    have q := IntsAre.length hit
    rw [Array.length_toList] at q
    exact q
  have hh3 : A.in1.handled = none := hh
  have hz1 : (s.heap.push (newSet w)).objs.size = s.heap.objs.size + 1 := Heap.size_push ..
  have hl1 : (s.heap.push (newSet w)).IsList l items := hl.push _
  have hneI : l ≠ s.heap.objs.size + 1 := Nat.ne_of_lt (Nat.lt_succ_of_lt hlS)
  have hSf : s.heap.objs.size ∉ [s.heap.objs.size + 1, l] := by
    simp only [List.mem_cons, List.not_mem_nil, or_false, not_or]
    exact ⟨Nat.ne_of_lt (Nat.lt_succ_self _), Nat.ne_of_gt hlS⟩
  have hval : ∀ (i : Nat) (v : Value), items[i]? = some v → ∃ k t, ns[i]? = some k ∧ v = .int k t := fun i v hv => by
    have hi : i < ns.length := by rw [← hisz]; exact (Array.getElem?_eq_some_iff.mp hv).1
    obtain ⟨t, e⟩ := PyProof.Rows.IntsAre.int_at hit i v (by rw [Array.getElem?_toList]; exact hv)
    refine ⟨ns[i], t, List.getElem?_eq_getElem hi, ?_⟩
    rw [e, List.getD_eq_getElem?_getD, List.getElem?_eq_getElem hi] <;> rfl
  have e1 : s.heap.objs.size + 1 = (s.heap.push (newSet w)).objs.size := hz1.symm
  refine set_update_ints ((Walks.list hh3 (s.heap.objs.size + 1) l hneI items).toS) s.heap.objs.size hSf ns hisz hb hval (items.size - 0) 0 _ (by omega) (Nat.zero_le _) ⟨⟨_, by rw [e1]; exact Heap.get?_push_size _ rfl, rfl, rfl⟩, hl1.push _⟩ ⟨0, Nat.le_refl 0, setR_new_at (Heap.get?_push_of_some _ (Heap.get?_push_size _ rfl))⟩ ?_
  intro s' c' hm hc' hS'
  obtain ⟨h', g2, d', tk', os'⟩ := s'
  obtain rfl : g2 = s.gens := hm.gens
  obtain rfl : d' = s.drawn := hm.drawn
  obtain rfl : os' = s.os := hm.os
  rw [hisz] at hc'
  refine h h' tk' c' hS' hc' fun b o e => ?_
  have hb0 : b < s.heap.objs.size := Heap.lt_size e
  exact hm.heap b o (by simp only [List.mem_cons, List.not_mem_nil, or_false, not_or]; exact ⟨Nat.ne_of_lt hb0, Nat.ne_of_lt (Nat.lt_succ_of_lt hb0)⟩) (Heap.get?_push_of_some _ (Heap.get?_push_of_some _ e))
theorem set_of_list {l : Addr} {items : Array Value} (ns : List Int) {Q : Value → Shared → Prop} (hh : A.handled = none) (hl : s.heap.IsList l items) (hit : IntsAre items.toList ns) (hb : ns.length + 1 < scanBound)
    (h : ∀ (h' : Heap) (tk c : Nat), SetR w h' s.heap.objs.size (fun j => decide (j ∈ ns)) c → c ≤ ns.length → (∀ b o, s.heap.get? b = some o → h'.get? b = some o) → Q (.ref s.heap.objs.size) { s with heap := h', toks := tk }) :
    wpAny (model P w) A (call (.type "set") [.ref l]) Q E s := by
  obtain ⟨c, tl, hmro⟩ := F.called_set.mro
  have hmade := F.called_set.made
  have hsub := F.called_set.sub
  refine wpAny_call (codeAny_of_tree ?_)
  show wpAny _ _ (callAny (.type "set") _) _ _ _
  refine wpAny_pure ⟨Code.quiet_builtin _ (by decide +kernel), codeAny_builtin F.entry_type_call ?_⟩
  rw [Around.under_plain (weight_type_call_type "set" [.ref l] []) rfl]
  have h1 := F.called_set.notType
  have h2 := F.called_set.canCreate
  have hct := F.typeCall_set_1 (.ref l)
  repeat (any_goals (first | assumption | wp_step))
  refine codeAny_mono (code_set_led1 (.ref l) (E := E) (Q₁ := fun obj s₁ => obj = .ref s.heap.objs.size ∧ s₁ = { s with heap := s.heap.push (newSet w) }) ⟨rfl, rfl⟩) fun r s₁ hr => ?_
  cases r with
  | error e => exact hr
  | ok fl =>
    cases fl with
    | ret obj =>
      obtain ⟨rfl, rfl⟩ := hr
      have hT : Shared.TypeIs { s with heap := s.heap.push (newSet w) } (.ref s.heap.objs.size) "set" := ⟨_, Heap.get?_push_size _ rfl, rfl⟩
      have hli := F.called_set.init.lookup
      have hbi := F.called_set.init.bind (.ref s.heap.objs.size)
      repeat (any_goals (first | assumption | wp_step))
      refine codeAny_mono (codeAny_call_builtin (R := wants (fun r s₂ => r = .none ∧ ∃ h' tk c, s₂ = { s with heap := h', toks := tk } ∧ SetR w h' s.heap.objs.size (fun j => decide (j ∈ ns)) c ∧ c ≤ ns.length ∧ (∀ b o, s.heap.get? b = some o → h'.get? b = some o)) E)
        F.called_set.init.plain F.entry_set_init (check_set_init_1 hT ?_)) fun r₂ s₂ hr₂ => ?_
      · obtain ⟨⟨ocls, odict, odata, oslots⟩, hol, hcl, nl, hdl⟩ := id hl
        simp only at hcl hdl
        subst hcl; subst hdl
        have hol' : (s.heap.push (newSet w)).get? l = some { cls := .type "list", dict := odict, data := .seq items nl, slots := oslots } := Heap.get?_push_of_some _ hol
        have hsls := F.sub_list_set
        have hslf := F.sub_list_frozenset
        have hne : (Value.type "list" == Value.type "dict") = false := by decide
        unfold Builtin.«set.__init__» noKeywords Builtin.Frozenset.updateFrom
        generalize hPI : pyIter = PI
        wp_walk
        subst hPI
        refine wpAny_pyIter_list (show (s.heap.push (newSet w)).IsList l items from ⟨_, hol', rfl, nl, rfl⟩) ?_
        refine wpAny_bind (wpAny_runValue ?_)
        have e1 : (s.heap.push (newSet w)).objs.size = s.heap.objs.size + 1 := Heap.size_push ..
        show codeAny _ _ (.builtin "set.update.loop" ⟨[.ref s.heap.objs.size, .ref (s.heap.push (newSet w)).objs.size], []⟩) _ _
        rw [e1]
        refine fill_set ns (by simp [hh]) hl hit hb fun h' tk' c' hS' hc' k => ?_
        show wpAny _ _ _ _ _ _
        refine wpAny_pure ?_
        show wpAny _ _ (ret Value.none) _ _ _
        exact wpAny_pure ⟨rfl, h', tk', c', rfl, hS', hc', k⟩
      · cases r₂ with
        | error e => exact hr₂
        | ok fl₂ =>
          cases fl₂ with
          | ret r =>
            obtain ⟨rfl, h', tk, c', rfl, hS', hc', hk'⟩ := hr₂
            repeat (any_goals (first | assumption | wp_step))
            exact h _ _ _ hS' hc' hk'
          | _ => exact hr₂.elim
    | _ => exact hr.elim
end
theorem insU_mem (x : Int) : ∀ (ys : List Int) (k : Int), k ∈ insU x ys ↔ k = x ∨ k ∈ ys
  | [], k => by simp [insU]
  | y :: ys, k => by
    unfold insU
    split
    · simp
    · split
      · rename_i h; subst h; simp
      · rw [List.mem_cons, insU_mem x ys k, List.mem_cons]
        constructor
        · rintro (h | h | h)
          · exact .inr (.inl h)
          · exact .inl h
          · exact .inr (.inr h)
        · rintro (h | h | h)
          · exact .inr (.inl h)
          · exact .inl h
          · exact .inr (.inr h)
theorem insU_sorted (x : Int) : ∀ (ys : List Int), ys.Pairwise (· < ·) → (insU x ys).Pairwise (· < ·)
  | [], _ => by simp [insU]
  | y :: ys, h => by
    rw [List.pairwise_cons] at h
    unfold insU
    split
    · rename_i hx
      rw [List.pairwise_cons, List.pairwise_cons]
      exact ⟨fun z hz => (List.mem_cons.mp hz).elim (fun e => by omega) fun hz => by have := h.1 z hz; omega, h⟩
    · split
      · rw [List.pairwise_cons]; exact h
      · rw [List.pairwise_cons]
        refine ⟨fun z hz => ?_, insU_sorted x ys h.2⟩
        rcases (insU_mem x ys z).mp hz with e | e
        · omega
        · exact h.1 z e
theorem sortU_mem : ∀ (ns : List Int) (k : Int), k ∈ sortU ns ↔ k ∈ ns
  | [], k => by simp [sortU]
  | n :: ns, k => by
    unfold sortU
    rw [insU_mem, sortU_mem ns k, List.mem_cons]
theorem sortU_sorted : ∀ (ns : List Int), (sortU ns).Pairwise (· < ·)
  | [] => by simp [sortU]
  | n :: ns => by
    unfold sortU
    exact insU_sorted n _ (sortU_sorted ns)
theorem sorted_one : ∀ {xs ys : List Int}, xs.Pairwise (· < ·) → ys.Pairwise (· < ·) → (∀ k, k ∈ xs ↔ k ∈ ys) → xs = ys
  | [], [], _, _, _ => rfl
  | [], y :: ys, _, _, h => by have := (h y).mpr (List.mem_cons_self ..); cases this
  | x :: xs, [], _, _, h => by have := (h x).mp (List.mem_cons_self ..); cases this
  | x :: xs, y :: ys, hx, hy, h => by
    rw [List.pairwise_cons] at hx hy
    have e : x = y := by
      have h1 := (h x).mp (List.mem_cons_self ..)
      have h2 := (h y).mpr (List.mem_cons_self ..)
      rcases List.mem_cons.mp h1 with e | e
      · exact e
      · rcases List.mem_cons.mp h2 with e2 | e2
        · exact e2.symm
        · have := hy.1 x e
          have := hx.1 y e2
          omega
    subst e
    rw [sorted_one hx.2 hy.2 fun k => ?_]
    have hk := h k
    rw [List.mem_cons, List.mem_cons] at hk
    constructor
    · intro m
      rcases hk.mp (.inr m) with e | e
      · have := hx.1 k m; omega
      · exact e
    · intro m
      rcases hk.mpr (.inr m) with e | e
      · have := hy.1 k m; omega
      · exact e
section
variable {X : Cx} {mg : MG} {T : List (Addr × Str)} {E : XK} {ra : Rho → Sto → Res D}
theorem pe_sortSet {a : Expr} {p p2 q pos : Pos} (hc : X.calm = true) (hg : Gl X "sorted") (hm : X.mg "sorted" = none) (hg2 : Gl X "set") (hm2 : X.mg "set" = none) (hn : noStar a = true) (ha : PE X a (tX mg T E ra)) :
    PE X (.Call (.Name "sorted" p) [.Call (.Name "set" p2) [a] [] q] [] pos) (tX mg T E fun ρ st => (ra ρ st).bind fun x s1 => .lift (sortSet x) s1) := by
  refine ⟨fun pins s σ H Q I h => ?_⟩
  refine Call_ (ld_blt I hg hm PyProof.Rows.boot_sorted ?_)
  refine PyProof.Rows.callWith_builtin1 (PyProof.Rows.args_cons ?_ rfl) rfl rfl
  refine Call_ (ld_blt I hg2 hm2 PyProof.Rows.boot_set ?_)
  obtain ⟨m, ρ, st, R, w⟩ := h
  have na := star_cons (es := []) (env := X.env) hn
  refine PyProof.Rows.callWith_type1 (PyProof.Rows.args_cons (thn (ha.run pins s σ H (fun v H1 => ∃ l ns, v = .ref l ∧ Rd H1 l (.lst (ns.map V.int)) ∧ ns.length ≤ 60 ∧ ∀ p, H1 p = none → Q (.ref p) (upd H1 p (.lst ((sortU ns).map V.int)))) I ⟨m, ρ, st, R, w.bind.imp fun x m1 s1 H1 R1 E1 w1 v rv => ?_⟩) fun v s1 ⟨x, H1, I1, r1, q1⟩ => PyProof.Rows.args_nil ?_) na) na rfl
  · obtain ⟨d, e, w1⟩ := w1.lift
    unfold sortSet at e
    split at e
    · split at e
      · rename_i xs ns e2
        split at e
        · rename_i hl
          cases e
          cases rv with
          | lst h1 n1 l1 t1 =>
            obtain rfl := t1.ints_of e2
            refine ⟨_, ns, rfl, h1, hl.1, fun p hp => (giv_of w1).lst R1 hp ?_ ?_⟩
            · exact RVs.of_ints (sortU ns)
            · rw [List.length_map]; exact hl.2
        · cases e
      · cases e
    · cases e
  · obtain ⟨l, ns, rfl, hq, hl, q1⟩ := q1
    cases r1
    obtain ⟨_, its, n, rv, e⟩ := rd_list I1 hq
    have hit : IntsAre its.toArray.toList ns := by simpa using ints_of_vals rv
    refine set_of_list ns (I1.ok.hd hc) (show s1.heap.IsList l its.toArray from ⟨_, e, rfl, n, rfl⟩) hit (by unfold scanBound; omega) fun h' tk c hS hcn hk => ?_
    refine PyProof.Rows.args_nil ?_
    have I2 : Inv X pins σ H1 { s1 with heap := h', toks := tk } := I1.kept fun b o e => hk b o e
    have hS2 : SetR X.w ({ s1 with heap := h', toks := tk } : Shared).heap s1.heap.objs.size (fun j => decide (j ∈ ns)) c := hS
    clear hS
    generalize ({ s1 with heap := h', toks := tk } : Shared) = s2 at hS2 I2 ⊢
    refine sorted_set (s := s2) hS2 (I1.ok.hd hc) (by omega) fun s' p out c2 ns2 k g o hp hg hi hs hm hl2 => ?_
    have e2 : ns2 = sortU ns := sorted_one hs (sortU_sorted ns) fun k => by rw [hm k, sortU_mem]; simp
    subst e2
    have hn2 : H1 p = none := I2.hok.fresh hp
    have hlen : ((sortU ns).map V.int).length ≤ sizeLine := by rw [List.length_map, hl2, sizeLine_eq]; omega
    have J : Inv X pins σ (upd H1 p (.lst ((sortU ns).map V.int))) { s2 with heap := s'.heap, gens := s'.gens, drawn := s'.drawn, toks := s'.toks } :=
      I2.call (ch := []) (Un.laid k hp hn2) (I2.hok.laid k hp ⟨hlen, out.toList, c2, vals_of_ints hi, hg⟩) (by rw [g]; exact I2.bare) (fun _ z => nomatch z)
    clear e hk
    have es : s' = { s2 with heap := s'.heap, gens := s'.gens, drawn := s'.drawn, toks := s'.toks } := by
      cases s'
      cases s2
      cases o
      rfl
    rw [es]
    exact ⟨.ref p, _, J, rfl, q1 p hn2⟩
end
end MP
set_option Elab.async false
set_option linter.all false
set_option maxRecDepth 100000
set_option maxHeartbeats 1000000
namespace MP
open PySem PySem.Spec PyProof.Rows L2 LamX

/-- what is wanted behind a statement -/
abbrev KF (mg : MG) (D' : Ends) : Fl → MA → Sto → Hp → Prop := fun fl m' _ H' => match fl with
  | .nx ρ' => ∀ σ', RE mg m' H' ρ' σ' → D'.nx σ' H'
  | .rt d => ∀ v, RV mg m' H' v d → D'.rt v H'
  | .bk ρ' => ∀ σ', RE mg m' H' ρ' σ' → D'.bk σ' H'
  | .ct ρ' => ∀ σ', RE mg m' H' ρ' σ' → D'.ct σ' H'
def tS (mg : MG) (T : List (Addr × Str)) (E : XK) (r : Rho → Sto → Res Fl) : TS := fun D' σ H => ∃ m ρ st, Rel mg T m ρ st σ H ∧ Wok mg T m H (r ρ st) (KF mg D') E
theorem PS.mono {X : Cx} {e : Stmt} {t t' : TS} (h : PS X e t) (i : ∀ D' σ H, t' D' σ H → t D' σ H) : PS X e t' := ⟨fun pins s σ H D' I w => h.run pins s σ H D' I (i D' σ H w)⟩
theorem PSs.mono {X : Cx} {e : List Stmt} {t t' : TS} (h : PSs X e t) (i : ∀ D' σ H, t' D' σ H → t D' σ H) : PSs X e t' := ⟨fun pins s σ H D' I w => h.run pins s σ H D' I (i D' σ H w)⟩
section
variable {X : Cx} {T : List (Addr × Str)} {E : XK} {N : List Str} {mg : MG}
theorem ps_bad {e : Stmt} {r : Rho → Sto → Res Fl} (h : ∀ ρ st, r ρ st = .bad) : PS X e (tS mg T E r) := ⟨fun pins s σ H D' I w => by
  obtain ⟨m, ρ, st, R, w⟩ := w
  rw [h] at w
  exact w.elim⟩
theorem pss_bad {e : List Stmt} {r : Rho → Sto → Res Fl} (h : ∀ ρ st, r ρ st = .bad) : PSs X e (tS mg T E r) := ⟨fun pins s σ H D' I w => by
  obtain ⟨m, ρ, st, R, w⟩ := w
  rw [h] at w
  exact w.elim⟩
def forF (N : List Str) (tg : Expr) (rb : Rho → Sto → Res Fl) (x : D) (ρ : Rho) (s : Sto) : Res Fl := match bindT N tg x ρ with
  | none => .bad
  | some ρ1 => rb ρ1 s
theorem tfor_of {tg : Expr} {ri : Rho → Sto → Res (List D)} {rb : Rho → Sto → Res Fl} {D' : Ends} {σ : L2.St} {H : Hp} (h : tS mg T E (fun ρ st => (ri ρ st).bind fun xs s1 => forGo xs (forF N tg rb) ρ s1) D' σ H) :
    tFor (tI mg T E ri) (gT mg N tg) (tS mg T E rb) D' σ H := by
  obtain ⟨m, ρ, st, Re, w⟩ := h
  refine ⟨m, ρ, st, Re, w.bind.imp fun xs m1 s1 H1 R1 E1 w1 J wk => ?_⟩
  refine ⟨fun i n σ H => n + i = xs.length ∧ ∃ m' ρ' st', RS mg T m' st' H ∧ RE mg m' H ρ' σ ∧ Ext m1 H1 m' H ∧ Wok mg T m' H (forGo (xs.drop i) (forF N tg rb) ρ' st') (KF mg D') E, ⟨xs.length, rfl, m1, ρ, s1, R1, Re.re.ext E1, Ext.refl _ _, w1⟩, ?_⟩
  rintro i n σ2 H2 ⟨hn, m', ρ', st', R', re', E', w'⟩
  by_cases hi : i < xs.length
  · refine .inr ?_
    have hxi : xs[i]? = some xs[i] := List.getElem?_eq_getElem hi
    rw [List.drop_eq_getElem_cons hi] at w'
    obtain ⟨k1, k2⟩ := wk.step i _ m' st' H2 E'.toExt0 R' hxi
    refine ⟨k1, fun σ H => ∃ m' ρ' st', RS mg T m' st' H ∧ RE mg m' H ρ' σ ∧ Ext m1 H1 m' H ∧ Wok mg T m' H (forGo (xs.drop (i + 1)) (forF N tg rb) ρ' st') (KF mg D') E, fun σ' H' hN => ⟨n - 1, by omega, by omega, hN⟩, fun v H3 hy => ?_⟩
    obtain ⟨R3, E3, rv⟩ := k2 v H3 hy
    have w3 : Wok mg T m' H3 ((forF N tg rb xs[i] ρ' st').bind fun fl s1 => match fl with
      | .nx ρ1 => forGo (xs.drop (i + 1)) (forF N tg rb) ρ1 s1
      | .ct ρ1 => forGo (xs.drop (i + 1)) (forF N tg rb) ρ1 s1
      | .bk ρ1 => .ok (.nx ρ1) s1
      | .rt d => .ok (.rt d) s1) (KF mg D') E := w'.later E3
    cases hb : bindT N tg xs[i] ρ' with
    | none =>
      unfold forF at w3
      rw [hb] at w3
      exact w3.elim
    | some ρ1 =>
      unfold forF at w3
      rw [hb] at w3
      refine ⟨m', ρ', xs[i], ρ1, re'.ext E3, rv, hb, fun σ3 re3 _ => ⟨m', ρ1, st', ⟨R3, re3⟩, w3.bind.imp fun fl m4 s4 H4 R4 E4 w4 => ?_⟩⟩
      have E14 := (E'.trans E3).trans E4
      cases fl with
      | nx ρ4 => exact fun σ4 re4 => ⟨m4, ρ4, s4, R4, re4, E14, w4⟩
      | ct ρ4 => exact fun σ4 re4 => ⟨m4, ρ4, s4, R4, re4, E14, w4⟩
      | bk ρ4 => exact w4.now R4
      | rt d => exact w4.now R4
  · refine .inl ?_
    have ei : i = xs.length := by omega
    subst ei
    rw [List.drop_length] at w'
    exact ⟨wk.stop m' H2 E'.toExt0, w'.now R' σ2 re'⟩
theorem twhile_of {rc : Rho → Sto → Res Bool} {rb : Rho → Sto → Res Fl} {D' : Ends} {σ : L2.St} {H : Hp} (n : Nat) (h : tS mg T E (fun ρ st => whGo n rc rb ρ st) D' σ H) :
    tWhile (tT mg T E rc) (tS mg T E rb) D' σ H := by
  refine ⟨fun k σ H => ∃ m ρ st, Rel mg T m ρ st σ H ∧ Wok mg T m H (whGo k rc rb ρ st) (KF mg D') E, ⟨n, h⟩, ?_⟩
  rintro k σ H ⟨m, ρ, st, R, w⟩
  cases k with
  | zero => exact w.elim
  | succ k =>
    have w' : Wok mg T m H ((rc ρ st).bind fun b s0 => match b with
      | false => .ok (.nx ρ) s0
      | true => (rb ρ s0).bind fun fl s1 => match fl with
        | .nx ρ1 => whGo k rc rb ρ1 s1
        | .ct ρ1 => whGo k rc rb ρ1 s1
        | .bk ρ1 => .ok (.nx ρ1) s1
        | .rt d => .ok (.rt d) s1) (KF mg D') E := w
    refine ⟨m, ρ, st, R, w'.bind.imp fun b m1 s1 H1 R1 E1 w1 => ?_⟩
    cases b with
    | false =>
      rw [if_neg Bool.false_ne_true]
      exact w1.now R1 σ (R.re.ext E1)
    | true =>
      rw [if_pos rfl]
      refine ⟨fun σ H => ∃ m ρ st, Rel mg T m ρ st σ H ∧ Wok mg T m H (whGo k rc rb ρ st) (KF mg D') E, fun σ' H' hN => ⟨k, Nat.lt_succ_self k, hN⟩, m1, ρ, s1, R.ext R1 E1, w1.bind.imp fun fl m4 s4 H4 R4 E4 w4 => ?_⟩
      cases fl with
      | nx ρ4 => exact fun σ4 re4 => ⟨m4, ρ4, s4, ⟨R4, re4⟩, w4⟩
      | ct ρ4 => exact fun σ4 re4 => ⟨m4, ρ4, s4, ⟨R4, re4⟩, w4⟩
      | bk ρ4 => exact w4.now R4
      | rt d => exact w4.now R4
theorem tasg_of {tg : Expr} {ra : Rho → Sto → Res D} {D' : Ends} {σ : L2.St} {H : Hp} (h : tS mg T E (fun ρ st => (ra ρ st).bind fun d s1 => match bindT N tg d ρ with | some ρ1 => .ok (.nx ρ1) s1 | none => .bad) D' σ H) :
    tAsg (tX mg T E ra) (gT mg N tg) D' σ H := by
  obtain ⟨m, ρ, st, R, w⟩ := h
  refine ⟨m, ρ, st, R, w.bind.imp fun d m1 s1 H1 R1 E1 w1 v rv => ?_⟩
  split at w1
  · rename_i ρ1 e
    exact ⟨m1, ρ, d, ρ1, R.re.ext E1, rv, e, fun σ' re' _ => w1.now R1 σ' re'⟩
  · exact w1.elim
theorem nc_sw {e : Expr} (h : notComp e = true) (tg : Option Expr) (l : Nat) (env : Env) : swapsWith e tg l env = pure false := by
  cases e <;> first | rfl | (exact Bool.noConfusion (show false = true from h))
theorem sw_no {e tg : Expr} (h : ∀ x p, tg ≠ .Name x p) (l : Nat) (env : Env) : swapsWith e (some tg) l env = pure false := by
  cases e <;> first | rfl | (cases tg <;> first | rfl | exact (h _ _ rfl).elim)
def swl (sc : Scope) (x : Str) (p : Pos) (scope : Scope) (cpos : Pos) : Bool := (sc.names.lookup x == some .local) && p.line == cpos.line && !(scope.names.any fun (n, k) => n == x && (k == .local || k == .cell))
theorem bk_fn {env : Env} (h : env.scope.kind = .function) : env.blockKind = .function := by
  unfold Env.blockKind
  rw [h]
  rfl
theorem sw_lc {elt : Expr} {gs : List Comprehension} {scope : Scope} {cpos p : Pos} {x : Str} {l : Nat} {env : Env} (h : env.scope.kind = .function) : swapsWith (.ListComp elt gs scope cpos) (some (.Name x p)) l env = pure (swl env.scope x p scope cpos) := by
  show pure _ = pure _
  rw [bk_fn h]
  rfl
/-- a, b, .. = c, d, ..: are the stores exchanged -/
def swN (sc : Scope) (ts : List Expr) : List Str := ts.filterMap fun
    | .Name id pos => if sc.names.lookup id == some .local && pos.line == ((ts.head?.map (·.pos.line)).getD 0) then some id else none
    | _ => none
def sw0 (sc : Scope) (ts vs : List Expr) : Bool := (!(ts.length == 2 || ts.length == 3) || vs.length != ts.length) || ((swN sc ts).length != ts.length || (swN sc ts).eraseDups.length != (swN sc ts).length) || vs.all (foldedForSure 8)
def sw2 (sc : Scope) (ts vs : List Expr) : Bool := (ts.length == 2 || ts.length == 3) && vs.length == ts.length && (swN sc ts).length == ts.length && (swN sc ts).eraseDups.length == (swN sc ts).length && !vs.all (foldedForSure 8) && !vs.all (constantsAlone 8)
theorem ns_any {vs : List Expr} (h : vs.all noStar = true) : (vs.any fun | .Starred .. => true | _ => false) = false := by
  induction vs with
  | nil => rfl
  | cons v vs ih =>
    simp only [List.all_cons, Bool.and_eq_true] at h
    rw [List.any_cons, ih h.2]
    cases v <;> first | rfl | (exact Bool.noConfusion (show false = true from h.1))
theorem sw_eq {env : Env} {ts vs : List Expr} {k k2 p p2} (hk : env.scope.kind = .function) (hs : vs.all noStar = true) : swappedStores [.Tuple ts k p] (.Tuple vs k2 p2) env =
    (if (!(ts.length == 2 || ts.length == 3) || vs.length != ts.length) = true then pure none else if ((swN env.scope ts).length != ts.length || (swN env.scope ts).eraseDups.length != (swN env.scope ts).length) = true then pure none
     else if vs.all (foldedForSure 8) = true then pure none else do
      if vs.all (constantsAlone 8) then unsupported "assign.tuple-of-constant-expressions:order-of-the-stores"
      return some (swN env.scope ts)) := by
  unfold swappedStores
  dsimp only
  rw [bk_fn hk]
  have e : ((ScopeKind.function != ScopeKind.function) : Bool) = false := by decide
  rw [e, Bool.or_false]
  by_cases hA : (!(ts.length == 2 || ts.length == 3) || vs.length != ts.length) = true
  · rw [if_pos hA, if_pos hA]
  · rw [if_neg hA, if_neg hA]
    refine (if_neg fun z => ?_).trans ?_
    · exact Bool.false_ne_true ((ns_any hs).symm.trans z)
    · by_cases hB : ((swN env.scope ts).length != ts.length || (swN env.scope ts).eraseDups.length != (swN env.scope ts).length) = true
      · rw [if_pos hB]
        exact if_pos hB
      · rw [if_neg hB]
        refine (if_neg hB).trans ?_
        split
        · rfl
        · split
          · rfl
          · rfl
theorem sw_none {env : Env} {ts vs : List Expr} {k k2 p p2} (hk : env.scope.kind = .function) (hs : vs.all noStar = true) (h : sw0 env.scope ts vs = true) : swappedStores [.Tuple ts k p] (.Tuple vs k2 p2) env = pure none := by
  rw [sw_eq hk hs]
  unfold sw0 at h
  split
  · rfl
  · rename_i h1
    split
    · rfl
    · rename_i h2
      split
      · rfl
      · rename_i h3
        exfalso
        simp only [Bool.or_eq_true] at h
        rcases h with (h | h) | h
        · exact h1 (by simpa only [Bool.or_eq_true] using h)
        · exact h2 (by simpa only [Bool.or_eq_true] using h)
        · exact h3 h
theorem sw_some {env : Env} {ts vs : List Expr} {k k2 p p2} (hk : env.scope.kind = .function) (hs : vs.all noStar = true) (h : sw2 env.scope ts vs = true) : swappedStores [.Tuple ts k p] (.Tuple vs k2 p2) env = pure (some (swN env.scope ts)) := by
  rw [sw_eq hk hs]
  unfold sw2 at h
  simp only [Bool.and_eq_true, Bool.not_eq_true'] at h
  obtain ⟨⟨⟨⟨⟨h1, h2⟩, h3⟩, h4⟩, h5⟩, h6⟩ := h
  rw [if_neg, if_neg, if_neg, if_neg]
  · rw [h6]; exact Bool.false_ne_true
  · rw [h5]; exact Bool.false_ne_true
  · rw [show ((swN env.scope ts).length != ts.length || (swN env.scope ts).eraseDups.length != (swN env.scope ts).length) = false from by unfold bne; rw [h3, h4]; rfl]; exact Bool.false_ne_true
  · rw [show (!(ts.length == 2 || ts.length == 3) || vs.length != ts.length) = false from by unfold bne; rw [h1, h2]; rfl]; exact Bool.false_ne_true
end
end MP
set_option Elab.async false
set_option linter.all false
set_option maxRecDepth 100000
set_option maxHeartbeats 1000000
namespace MP
open PySem PySem.Spec PyProof.Rows L2 HotX
section
variable {prog : Program} {w : World} {A : Around} {E : Value → Shared → Prop} {s : Shared}
/-- StopIteration, made and raised -/
theorem stop_hot {α : Type} {x1 : Addr} {Q : α → Shared → Prop} (hot : HotAt A x1 s.heap)
    (hE : ∀ h' e, (∀ b o, s.heap.get? b = some o → h'.get? b = some o) → (∃ o, h'.get? e = some o ∧ o.cls = .type "StopIteration") → E (.ref e) { s with heap := h' }) :
    wpAny (model prog w) A (newExc (.type "StopIteration") [] >>= fun e => (raiseNew e : Sem α)) Q E s := by
  obtain ⟨hh, o1, vs1, h1, d1, c1⟩ := hot
  refine wpAny_bind ?_
  simp only [newExc, newTuple]
  refine wpAny_bind (wpAny_newObj_type ?_ (by size_fits))
  refine wpAny_bind (m := firstArgMember _ _) (wpAny_of_eq (a := Value.none) (by first | rfl | (simp only [firstArgMember]; rfl)) ?_)
  refine wpAny_newObj_type ?_ (by size_fits)
  refine raiseNew_hot ⟨hh, o1, vs1, Heap.get?_push_of_some _ (Heap.get?_push_of_some _ h1), d1, c1⟩ (Nat.ne_of_lt (Heap.lt_size (Heap.get?_push_of_some _ h1))) (Heap.get?_push_size _ rfl) rfl (by first | (simp; done) | (simp; omega) | (simp only [Array.size_append]; simp; omega)) ?_
  refine hE _ _ (fun b o e => ?_) ⟨_, Heap.get?_update_self _ (Heap.get?_push_size _ rfl) rfl, rfl⟩
  rw [Heap.get?_update_other _ _ (Nat.ne_of_gt (Heap.lt_size (Heap.get?_push_of_some _ e)))]
  exact Heap.get?_push_of_some _ (Heap.get?_push_of_some _ e)
theorem hot_keep {x1 : Addr} {h h' : Heap} (hot : HotAt A x1 h) (k : ∀ o, h.get? x1 = some o → h'.get? x1 = some o) : HotAt A x1 h' :=
  let ⟨hh, o, vs, h1, d, c⟩ := hot; ⟨hh, o, vs, k o h1, d, c⟩
theorem tuple_end_hot {it t x1 : Addr} {i : Nat} {items : Array Value} {Q : Option Value → Shared → Prop} (hot : HotAt A x1 s.heap) (hne : x1 ≠ it) (hit : s.heap.IsTupleIter it t i) (ht : s.heap.IsTuple t items) (hx : items[i]? = none)
    (hQ : ∀ h', Heap.ExtBut it s.heap h' → Q none { s with heap := h' }) : wpAny (model prog w) A (pyNext (.ref it)) Q E s := by
  obtain ⟨o, ho, hc, hd⟩ := id hit
  obtain ⟨ol, hol, _, nl, hdl⟩ := ht
  unfold pyNext
  refine wpAny_bind (wpAny_attempt (wpAny_callSpecial?_slot (name := Str.ofString "__next__") hit.typeIs F.slot_tuple_iterator_next
    (wpAny_call_entry F.slot_tuple_iterator_next hit.typeIs F.entry_tuple_iterator_next ?_ (F.args_tuple_iterator_next_1 _))))
  show wpAny _ _ (field (.ref it) 0 >>= _) _ _ s
  refine wpAny_bind (wpAny_field ho hd (x := .ref t) rfl ?_)
  show wpAny _ _ (if (Value.ref t == Value.none) = true then _ else _) _ _ s
  rw [if_neg (show ¬ ((Value.ref t == Value.none) = true) from Bool.false_ne_true)]
  show wpAny _ _ (field (.ref it) 1 >>= _) _ _ s
  refine wpAny_bind (wpAny_field ho hd (x := .int i 0) rfl ?_)
  show wpAny _ _ (seqItems? (.ref t) >>= _) _ _ s
  refine wpAny_bind (wpAny_seqItems hol hdl ?_)
  simp only [Int.toNat_natCast, hx]
  refine wpAny_bind (wpAny_rule (wpAny_bind (wpAny_setField ho hd (by simp) ?_)))
  have sb := Heap.SameBut.update s.heap it (Obj.mapFields fun x => x.setIfInBounds 0 Value.none)
  refine stop_hot (A := A.in1) (x1 := x1) (hot_keep (A := A.in1) hot fun o q => sb.extBut _ _ hne q) fun h' e k he => ?_
  obtain ⟨oe, he1, he2⟩ := he
  refine wpAny_bind (wpAny_isInstance (T := "StopIteration") (b := true) ⟨oe, he1, he2⟩ isSubtype_stop ?_)
  exact wpAny_pure (hQ _ fun b o hb q => k b o (sb.extBut b o hb q))
theorem list_next_hot {it l x1 : Addr} {i : Nat} {items : Array Value} {Q : Value → Shared → Prop} (hot : HotAt A x1 s.heap) (hne : x1 ≠ it) (hit : s.heap.IsListIter it l i) (hl : s.heap.IsList l items) (hx : items[i]? = none)
    (hE : ∀ h' e, Heap.ExtBut it s.heap h' → (∃ o, h'.get? e = some o ∧ o.cls = .type "StopIteration") → E (.ref e) { s with heap := h' }) :
    wpAny (model prog w) A (Builtin.SmallTypes.nextOf (.ref it)) Q E s := by
  obtain ⟨o, ho, hc, hd⟩ := id hit
  obtain ⟨ol, hol, _, nl, hdl⟩ := hl
  unfold Builtin.SmallTypes.nextOf
  refine wpAny_bind (wpAny_callSpecial?_slot (name := Str.ofString "__next__") hit.typeIs slot_listiter_next
    (wpAny_call_entry slot_listiter_next hit.typeIs entry_listiter_next ?_ (args_listiter_next _)))
  show wpAny _ _ (field (.ref it) 0 >>= _) _ _ s
  refine wpAny_bind (wpAny_field ho hd (x := .ref l) rfl ?_)
  show wpAny _ _ (if (Value.ref l == Value.none) = true then _ else _) _ _ s
  rw [if_neg (show ¬ ((Value.ref l == Value.none) = true) from Bool.false_ne_true)]
  show wpAny _ _ (field (.ref it) 1 >>= _) _ _ s
  refine wpAny_bind (wpAny_field ho hd (x := .int i 0) rfl ?_)
  show wpAny _ _ (seqItems? (.ref l) >>= _) _ _ s
  refine wpAny_bind (wpAny_seqItems hol hdl ?_)
  simp only [Int.toNat_natCast, hx]
  refine wpAny_bind (wpAny_rule (wpAny_bind (wpAny_setField ho hd (by simp) ?_)))
  have sb := Heap.SameBut.update s.heap it (Obj.mapFields fun x => x.setIfInBounds 0 Value.none)
  exact stop_hot (A := A.in1) (x1 := x1) (hot_keep (A := A.in1) hot fun o q => sb.extBut _ _ hne q) fun h' e k he => hE h' e (fun b o hb q => k b o (sb.extBut b o hb q)) he
theorem drawsH {x1 : Addr} (it l : Addr) (hne : l ≠ it) (hx : x1 ≠ it) (items : Array Value) :
    Draws prog w A it [it, l, x1] items.size (fun i v => items[i]? = some v) (fun i h => (h.IsListIter it l i ∧ h.IsList l items) ∧ HotAt A x1 h) where
  live := fun _ _ st => let ⟨o, ho, _⟩ := st.1.1; ⟨o, ho⟩
  frame := fun _ _ _ st hk => ⟨⟨st.1.1.at fun o e => hk it (by simp) o e, st.1.2.at fun o e => hk l (by simp) o e⟩, hot_keep st.2 fun o e => hk x1 (by simp) o e⟩
  item := fun i s Q E hi st hQ => by
    refine wpAny_nextOf_list_item st.1.1 st.1.2 (x := items[i]) (by simp [hi]) fun h' hit' hs' => ?_
    exact hQ _ h' s.toks (by simp [hi]) ⟨⟨hit', st.1.2.extBut hs'.extBut hne⟩, hot_keep st.2 fun o e => hs'.extBut _ _ hx e⟩ hs'
  done := fun s Q E st hE => list_next_hot st.2 hx st.1.1 st.1.2 (by simp) fun h' e he hs => hE h' e he hs
theorem unpack_hot {t x1 : Addr} {items : Array Value} {Q : List Value → Shared → Prop} (hot : HotAt A x1 s.heap) (ht : s.heap.IsTuple t items)
    (hQ : ∀ h', Heap.ExtBut s.heap.objs.size s.heap h' → Q items.toList { s with heap := h' }) : wpAny (model prog w) A (unpackItems (.ref t) items.size none) Q E s := by
  have hlt : t ≠ s.heap.objs.size := by obtain ⟨o, ho, _⟩ := ht; exact Nat.ne_of_lt (Heap.lt_size ho)
  have hx1 : x1 ≠ s.heap.objs.size := by obtain ⟨_, o, _, ho, _⟩ := hot; exact Nat.ne_of_lt (Heap.lt_size ho)
  unfold unpackItems
  refine wpAny_bind ?_
  unfold notIterableAtAll
  refine wpAny_bind (wpAny_specialOf ht.typeIs F.slot_tuple_iter.lookup ?_)
  refine wpAny_pure ?_
  simp only [Bool.false_eq_true, if_false]
  refine wpAny_bind (wpAny_holding (wpAny_pyIter_tuple ht ?_))
  refine wpAny_bind (wpAny_holding (wpAny_draw_tuple hlt items.size 0 _ _ ⟨_, Heap.get?_push_size _ rfl, rfl, rfl⟩ (ht.push _) (by omega) fun h₁ hit₁ hs₁ => ?_))
  rw [show List.take items.size (List.drop 0 items.toList) = items.toList from by rw [List.drop_zero]; exact List.take_of_length_le (by simp), if_neg (by simp)]
  refine wpAny_bind (wpAny_holding (tuple_end_hot (x1 := x1) (hot_keep hot fun o e => hs₁.extBut _ _ hx1 (Heap.get?_push_of_some _ e)) hx1 hit₁ ((ht.push _).extBut hs₁.extBut hlt) (by simp) fun h₂ he₂ => ?_))
  simp only [Option.isSome_none, Bool.false_eq_true, if_false]
  exact wpAny_pure (hQ h₂ fun b o hb e => he₂ b o hb (hs₁.extBut b o hb (Heap.get?_push_of_some _ e)))
end
end MP
set_option Elab.async false
set_option linter.all false
set_option maxRecDepth 100000
set_option maxHeartbeats 1000000
namespace MP
open PySem PySem.Spec PyProof.Rows L2 HotX L2H
section
variable {X : Cx} {mg : MG} {T : List (Addr × Str)} {N : List Str}
theorem hot_of {pins : List (Addr × Obj)} {σ : L2.St} {H : Hp} {s : Shared} {p : Addr × Obj} (h : Hot1 X.A p) (hp : p ∈ X.pn) (I : Inv X pins σ H s) : HotAt X.A p.1 s.heap :=
  let ⟨hh, v1, e1, c1⟩ := h; ⟨hh, p.2, v1, (I.pin p (List.mem_append_left _ hp)).1, e1, c1⟩
theorem pg_tupH {es : List Expr} {k : Nat} {pos : Pos} {t : TGs} {n : Nat} (hc : HotC X) (h : PGs X es t) (hn : (assignEach es X.env).length = n) (hst : (assignEach es X.env).findIdx? (·.1) = none) : PG X (.Tuple es k pos) (gTup X.K n t) := by
  refine ⟨fun pins s σ H v u Q I r hw => ?_⟩
  obtain ⟨a, xs, e1, hq, hl, hw⟩ := hw
  subst e1
  cases r
  obtain ⟨its, rv, ht, hz⟩ := I.tuple hq
  obtain ⟨p, h1, hp⟩ := hc
  rw [arm_assign_Tuple]
  refine wpAny_bind (wpAny_standAt ?_)
  unfold unpack
  have hsz : (assignEach es X.env).length = its.toArray.size := by simp [hn, ← hl, rv.length]
  rw [hsz, hst]
  refine wpAny_bind (wpAny_holding (unpack_hot (hot_of h1 hp I) (show s.heap.IsTuple a its.toArray from ht) fun h' hx => ?_))
  have I1 : Inv X pins σ H { s with heap := h' } := I.kept (t' := s.toks) fun b o e => hx b o (Nat.ne_of_lt (Heap.lt_size e)) e
  exact h.run pins _ σ H xs _ Q I1 (by simpa using rv) hw
/-- a frame where an exception is handled -/
structure FrH (X : Cx) (N : List Str) (lsc : Scope) : Prop where
  hot : HotC X
  nd : N.Nodup
  hN : X.N = N
  loc : ∀ x, locB lsc x = true → Loc X.env.scope x ∧ (X.fn x = true ∨ X.env.scope.names.lookup x = some .local)
theorem pgs_tsH {lsc : Scope} (F : FrH X N lsc) : ∀ (ts : List Expr), ckTs lsc ts = true → PGs X ts (gTs mg N ts) ∧ (assignEach ts X.env).length = ts.length ∧ (assignEach ts X.env).findIdx? (·.1) = none := by
  intro ts
  induction ts with
  | nil =>
    intro _
    refine ⟨PGs.mono pgs_nil fun vs σ H Q h => ?_, rfl, rfl⟩
    obtain ⟨m, ρ, ds, ρ1, re, rv, hb, q⟩ := h
    cases ds with
    | nil =>
      cases rv
      cases hb
      exact ⟨rfl, q σ re Same.refl⟩
    | cons d ds => cases hb
  | cons e ts ih =>
    intro h
    cases e with
    | Name x p =>
      have h' : (locB lsc x && ckTs lsc ts) = true := h
      rw [Bool.and_eq_true] at h'
      obtain ⟨ih, i1, i2⟩ := ih h'.2
      obtain ⟨l1, l2⟩ := F.loc x h'.1
      refine ⟨?_, congrArg (· + 1) i1, ?_⟩
      · cases e : slot N x with
        | none =>
          refine ⟨fun pins s σ H vs us Q I r h => ?_⟩
          obtain ⟨m, ρ, ds, ρ1, re, rv, hb, q⟩ := h
          cases ds with
          | nil => cases hb
          | cons d ds => simp only [bindN, e] at hb; cases hb
        | some i =>
          have pn : PG X (.Name x p) (gName i) := pg_name (by rw [F.hN]; exact F.nd) (by rw [F.hN]; exact slot_at e) l1 l2
          refine PGs.mono (pgs_cons pn ih rfl) fun vs σ H Q h => ?_
          obtain ⟨m, ρ, ds, ρ1, re, rv, hb, q⟩ := h
          cases rv with
          | nil => cases hb
          | cons a t =>
            simp only [bindN, e] at hb
            refine ⟨_, _, rfl, m, _, _, ρ1, re.set a, t, hb, fun σ' r' s' => q σ' r' ?_⟩
            have := s'.set
            simpa [tgs, e] using this
      · show List.findIdx? _ ((false, _) :: assignEach ts X.env) = none
        rw [List.findIdx?_cons]
        simp only [Bool.false_eq_true, if_false]
        rw [i2]
        rfl
    | _ => exact Bool.noConfusion (show false = true from h)
theorem bindN_len {ρ1 : Rho} : ∀ {es : List Expr} {ds : List D} {ρ : Rho}, bindN N es ds ρ = some ρ1 → ds.length = es.length := by
  intro es
  induction es with
  | nil => intro ds ρ h; cases ds with
    | nil => rfl
    | cons d ds => cases h
  | cons e es ih => intro ds ρ h; cases ds with
    | nil => cases e <;> cases h
    | cons d ds => cases e with
      | Name x p =>
        cases e2 : slot N x with
        | none => simp only [bindN, e2] at h; cases h
        | some i =>
          simp only [bindN, e2] at h
          exact congrArg (· + 1) (ih h)
      | _ => cases h
def isTup : D → Prop
  | .tuple _ => True
  | _ => False
theorem pg_tH {lsc : Scope} (F : FrH X N lsc) {es : List Expr} {k : Nat} {p : Pos} (h : ckTs lsc es = true) : PG X (.Tuple es k p) (gTp mg isTup N (.Tuple es k p)) := by
  obtain ⟨g1, g2, g3⟩ := pgs_tsH F es h
  refine PG.mono (pg_tupH F.hot g1 g2 g3) fun v σ H Q h => ?_
  obtain ⟨m, ρ, d, ρ1, re, rv, hp, hb, q⟩ := h
  cases rv with
  | tup h1 n1 l1 t1 => exact ⟨_, _, rfl, .inl h1, by rw [t1.length]; exact bindN_len hb, m, ρ, _, ρ1, re, t1, hb, q⟩
  | _ => exact hp.elim
theorem turn_zipH {P : Program} {w : World} {K : PySem.W.Frag} {elts : List Expr} {kk : Nat} {tpos : Pos} {a b z TI TO i1 i2 : Addr} (D : ZipSep2 z TI TO i1 i2 [i1, a] [i2, b]) (na : a ≠ i1) (nb : b ≠ i2) :
    TurnH P w K (.Tuple elts kk tpos) (ItzB K a b false false) [z, TI, TO, i1, i2] z (fun i h => IsZip h z TI TO .none ∧ IsTupOf2 h TI (.ref i1) (.ref i2) ∧ (∃ x y, IsTupOf2 h TO x y) ∧ h.IsListIter i1 a i ∧ h.IsListIter i2 b i) := by
  have T0 := turn_zipB (P := P) (w := w) (K := K) (elts := elts) (kk := kk) (tpos := tpos) (ka := false) (kb := false) D na nb
  have dr : ∀ {X : Cx} {p : Addr × Obj} {pins : List (Addr × Obj)} {H : Hp}, (∀ c ∈ [z, TI, TO, i1, i2], FpOk X pins H c) → p ∈ X.pn → (∀ c ∈ [z, TI, TO, i1, i2], p.1 ≠ c) ∧ (ZipSep2 z TI TO i1 i2 [i1, a, p.1] [i2, b, p.1]) := by
    intro X p pins H hf hp
    have ne : ∀ c ∈ [z, TI, TO, i1, i2], p.1 ≠ c := fun c hc => (hf c hc).2.2.2.2.2 p (List.mem_append_left _ hp)
    refine ⟨ne, ⟨D.TIz, D.TOz, D.TITO, D.TIi1, by simp, ?_, ?_, D.TIi2, by simp, ?_, ?_, ?_, ?_⟩⟩
    all_goals intro hm
    · rcases List.mem_cons.mp hm with h | hm
      · exact D.zi1 h
      · rcases List.mem_cons.mp hm with h | hm
        · exact D.zf1 (by rw [h]; simp)
        · exact ne z (by simp) (List.mem_singleton.mp hm).symm
    · rcases List.mem_cons.mp hm with h | hm
      · exact D.Ti1 h
      · rcases List.mem_cons.mp hm with h | hm
        · exact D.Tf1 (by rw [h]; simp)
        · exact ne TO (by simp) (List.mem_singleton.mp hm).symm
    · rcases List.mem_cons.mp hm with h | hm
      · exact D.zi2 h
      · rcases List.mem_cons.mp hm with h | hm
        · exact D.zf2 (by rw [h]; simp)
        · exact ne z (by simp) (List.mem_singleton.mp hm).symm
    · rcases List.mem_cons.mp hm with h | hm
      · exact D.Ti2 h
      · rcases List.mem_cons.mp hm with h | hm
        · exact D.Tf2 (by rw [h]; simp)
        · exact ne TO (by simp) (List.mem_singleton.mp hm).symm
    · rcases List.mem_cons.mp hm with h | hm
      · exact D.sep1_2 (by rw [h]; simp)
      · rcases List.mem_cons.mp hm with h | hm
        · exact D.sep1_2 (by rw [h]; simp)
        · exact ne i1 (by simp) (List.mem_singleton.mp hm).symm
    · rcases List.mem_cons.mp hm with h | hm
      · exact D.sep2_1 (by rw [h]; simp)
      · rcases List.mem_cons.mp hm with h | hm
        · exact D.sep2_1 (by rw [h]; simp)
        · exact ne i2 (by simp) (List.mem_singleton.mp hm).symm
  refine ⟨T0.mem, T0.obj, T0.keep, ?_, ?_, T0.self⟩
  · intro X hP hw hK hc i pins s σ H E I hf st hg
    subst hP hw hK
    obtain ⟨p, hot1, hp⟩ := hc
    have hot : HotAt X.A.in1 p.1 s.heap := hot_of hot1 hp I
    obtain ⟨ne, D2⟩ := dr hf hp
    obtain ⟨hz, hTI, ⟨x0, y0, hTO⟩, h1, h2⟩ := st
    obtain ⟨xs, ys, x, y, hqx, hqy, hx, hy⟩ := hg
    obtain ⟨its, rv, p1, _⟩ := inv_sqB I hqx
    obtain ⟨its2, rv2, p2, _⟩ := inv_sqB I hqy
    obtain ⟨u, hu, ru⟩ := rv.get hx
    obtain ⟨u2, hu2, ru2⟩ := rv2.get hy
    have hzl : z < s.heap.objs.size := Heap.lt_size hz
    refine wpAny_pyNext_zipD2_item D2 (drawsH i1 a na (ne i1 (by simp)) its.toArray) (drawsH i2 b nb (ne i2 (by simp)) its2.toArray) hz hTI hTO ⟨⟨h1, p1⟩, hot⟩ ⟨⟨h2, p2⟩, hot⟩ ?_ ?_ fun w1 w2 h' tk e1 e2 z' TO' st1' st2' hT hsz hk => ?_
    · have := (List.getElem?_eq_some_iff.mp hu).1
      simpa using this
    · have := (List.getElem?_eq_some_iff.mp hu2).1
      simpa using this
    obtain rfl : u = w1 := by
      have : some u = some w1 := by rw [← hu, ← e1]; simp
      exact Option.some.inj this
    obtain rfl : u2 = w2 := by
      have : some u2 = some w2 := by rw [← hu2, ← e2]; simp
      exact Option.some.inj this
    refine ⟨_, rfl, wpAny_letOwnedTupleGo_zip (s := { s with heap := h', toks := tk }) z' fun h'' z'' sb => ?_⟩
    have hT2 : h''.get? s.heap.objs.size = some { cls := .type "tuple", data := .seq #[u, u2] } := (sb.2 _ (Nat.ne_of_gt hzl)).trans hT
    have new : ObjOk X.prog X.w (upd H s.heap.objs.size (.tup [x, y])) h'' s.heap.objs.size (.tup [x, y]) :=
      ⟨by show 2 ≤ sizeLine; decide, [u, u2], .cons ru (.cons ru2 .nil), ⟨_, hT2, rfl, _, rfl⟩⟩
    have I1 : Inv X pins σ (upd H s.heap.objs.size (.tup [x, y])) { s with heap := h'', toks := tk } :=
      I.turnedNew (t' := tk) (ch := [z, TI, TO, i1, i2]) (fun c o hb q => (sb.2 c (fun q' => hb (by simp [q']))).trans (hk c o (fun q' => hb (by simp [q'])) (fun q' => hb (by simp [q'])) (fun q' => hb (by simp [q'])) (fun q' => hb (by simp [q'])) q)) hf (Nat.le_refl _) new
    have zi1 := D.zi1
    have zi2 := D.zi2
    refine ⟨.ref s.heap.objs.size, _, I1, rfl, ⟨_, x, y, rfl, I.hok.fresh (Nat.le_refl _), rfl, fun l hl => by rw [inv_sqB_inj I hl hqx]; exact hx, fun l hl => by rw [inv_sqB_inj I hl hqy]; exact hy⟩, ⟨z'', ?_, ⟨u, u2, ?_⟩, ?_, ?_⟩, fun c hcm => ?_⟩
    · exact (sb.2 _ D.TIz).trans (hk _ _ D.TIz D.TITO D.TIi1 D.TIi2 hTI)
    · exact (sb.2 _ D.TOz).trans TO'
    · exact iterB_at (b := false) st1'.1.1 fun o q => (sb.2 _ zi1.symm).trans q
    · exact iterB_at (b := false) st2'.1.1 fun o q => (sb.2 _ zi2.symm).trans q
    · have hlt : c < s.heap.objs.size := by
        have e' : c = z ∨ c = TI ∨ c = TO ∨ c = i1 ∨ c = i2 := by simpa using hcm
        rcases e' with q | q | q | q | q
        · rw [q]; exact hzl
        · rw [q]; exact Heap.lt_size hTI
        · rw [q]; exact Heap.lt_size hTO
        · rw [q]; obtain ⟨_, e1, _⟩ := h1; exact Heap.lt_size e1
        · rw [q]; obtain ⟨_, e2, _⟩ := h2; exact Heap.lt_size e2
      rw [upd_ne (Nat.ne_of_lt hlt)]
      exact (hf c hcm).1
  · intro X hP hw hK hc i pins s σ H E I hf st hg
    subst hP hw hK
    obtain ⟨p, hot1, hp⟩ := hc
    have hot : HotAt X.A.in1 p.1 s.heap := hot_of hot1 hp I
    obtain ⟨ne, D2⟩ := dr hf hp
    obtain ⟨hz, hTI, ⟨x0, y0, hTO⟩, h1, h2⟩ := st
    obtain ⟨xs, ys, hqx, hqy, l1, l2, hend⟩ := hg
    obtain ⟨its, rv, p1, _⟩ := inv_sqB I hqx
    obtain ⟨its2, rv2, p2, _⟩ := inv_sqB I hqy
    have g1 := rv.length
    have g2 := rv2.length
    refine wpAny_pyNext_zipD2_end D2 (drawsH i1 a na (ne i1 (by simp)) its.toArray) (drawsH i2 b nb (ne i2 (by simp)) its2.toArray) hz hTI hTO ⟨⟨h1, p1⟩, hot⟩ ⟨⟨h2, p2⟩, hot⟩ (by simp; omega) (by simp; omega) (by simp; omega) fun h' tk hk => ⟨rfl, I.turnedL (t' := tk) (ch := [z, TI, TO, i1, i2]) (fun c o hb q =>
      hk c o (fun q' => hb (by simp [q'])) (fun q' => hb (by simp [q'])) (fun q' => hb (by simp [q'])) (fun q' => hb (by simp [q'])) q) hf⟩
end
end MP
set_option Elab.async false
set_option linter.all false
set_option maxRecDepth 100000
set_option maxHeartbeats 1000000
namespace MP
open PySem PySem.Spec PyProof.Rows L2 HotX L2H
theorem PIH.mono {X : Cx} {tg e : Expr} {t t' : TI} (h : PIH X tg e t) (i : ∀ σ H Q, t' σ H Q → t σ H Q) : PIH X tg e t' := ⟨fun pins s σ H Q I w => h.run pins s σ H Q I (i σ H Q w)⟩
section
variable {X : Cx} {mg : MG} {T : List (Addr × Str)} {N : List Str} {E : XK} {ra rb : Rho → Sto → Res D}
def iZipL (K : PySem.W.Frag) (ta : TA) : TI := fun σ H R => ta σ H fun vs H1 => ∃ a b xs ys, vs = [.ref a, .ref b] ∧ SqL K H1 a xs ∧ SqL K H1 b ys ∧ R (ItzB K a b false false) H1
theorem pih_zipL {e e2 : Expr} {ta : TA} {p pos tpos : Pos} {elts : List Expr} {kk : Nat} (hg : Gl X "zip") (hm : X.mg "zip" = none) (ha : PA X [e, e2] ta)
    (hs : starEach [e, e2] X.env = (false, eval e X.env) :: starEach [e2] X.env) (hpl : (backTo pos (starEach [e2] X.env)).any (·.1) = false) :
    PIH X (.Tuple elts kk tpos) (.Call (.Name "zip" p) [e, e2] [] pos) (iZipL X.K ta) := by
  refine ⟨fun pins s σ H R I h => ?_⟩
  refine Call_ (ld_blt I hg hm PyProof.Rows.boot_zip (PyProof.Rows.callWith_type1 (thn (ha.run pos pins s σ H _ I h) fun us s1 ⟨vs, H1, I1, r1, q1⟩ => ?_) hs hpl))
  obtain ⟨a, b, xs, ys, ex, hqx, hqy, q⟩ := q1
  subst ex
  cases r1 with
  | cons r rr =>
    cases rr with
    | cons r' rr =>
      cases rr
      cases r
      cases r'
      obtain ⟨its, rv, p1, _⟩ := inv_sqB (b := false) I1 hqx
      obtain ⟨its2, rv2, p2, _⟩ := inv_sqB (b := false) I1 hqy
      have l1 := isB_lt p1
      have l2 := isB_lt p2
      refine zip_begins2 (beginsB a its.toArray false) (beginsB b its2.toArray false) p1 p2 fun h' hz hTI hTO h1 h2 hsz hk => wpAny_pyIter_zip hz ?_
      have I2 : Inv X pins σ H1 { s1 with heap := h' } := I1.kept (t' := s1.toks) hk
      have ge : ∀ c, c ∈ [s1.heap.objs.size + 4, s1.heap.objs.size + 2, s1.heap.objs.size + 3, s1.heap.objs.size, s1.heap.objs.size + 1] → s1.heap.objs.size ≤ c := fun c hcm => by
        simp only [List.mem_cons, List.not_mem_nil, or_false] at hcm
        rcases hcm with z | z | z | z | z <;> rw [z] <;> first | exact Nat.le_refl _ | exact Nat.le_add_right _ _
      have x : ∀ {c k : Nat}, c < s1.heap.objs.size → s1.heap.objs.size + k ≠ c := fun {c k} h e => absurd h (by rw [← e]; exact Nat.not_lt.mpr (Nat.le_add_right _ _))
      have y : ∀ {j k : Nat}, j ≠ k → s1.heap.objs.size + j ≠ s1.heap.objs.size + k := fun h e => h (Nat.add_left_cancel e)
      have na : a ≠ s1.heap.objs.size := Nat.ne_of_lt l1
      have nb : b ≠ s1.heap.objs.size + 1 := Nat.ne_of_lt (Nat.lt_succ_of_lt l2)
      have D : ZipSep2 (s1.heap.objs.size + 4) (s1.heap.objs.size + 2) (s1.heap.objs.size + 3) s1.heap.objs.size (s1.heap.objs.size + 1) [s1.heap.objs.size, a] [s1.heap.objs.size + 1, b] := by
        refine ⟨y (by decide), y (by decide), y (by decide), y (k := 0) (by decide), by simp, ?_, ?_, y (by decide), by simp, ?_, ?_, ?_, ?_⟩
        · exact fun h => (List.mem_cons.mp h).elim (y (k := 0) (by decide)) fun h => x l1 (List.mem_singleton.mp h)
        · exact fun h => (List.mem_cons.mp h).elim (y (k := 0) (by decide)) fun h => x l1 (List.mem_singleton.mp h)
        · exact fun h => (List.mem_cons.mp h).elim (y (by decide)) fun h => x l2 (List.mem_singleton.mp h)
        · exact fun h => (List.mem_cons.mp h).elim (y (by decide)) fun h => x l2 (List.mem_singleton.mp h)
        · exact fun h => (List.mem_cons.mp h).elim (y (j := 0) (by decide)) fun h => x (k := 0) l2 (List.mem_singleton.mp h)
        · exact fun h => (List.mem_cons.mp h).elim (y (k := 0) (by decide)) fun h => x l1 (List.mem_singleton.mp h)
      exact ⟨s1.heap.objs.size + 4, [s1.heap.objs.size + 4, s1.heap.objs.size + 2, s1.heap.objs.size + 3, s1.heap.objs.size, s1.heap.objs.size + 1], _, _, H1, rfl, I2, turn_zipH D na nb, ⟨hz, hTI, ⟨_, _, hTO⟩, iterB_new (b := false) h1, iterB_new (b := false) h2⟩, fun c hc => I1.fpOk (ge c hc) (I1.hok.fresh (ge c hc)), q⟩
theorem pih_zip1 {a b : Expr} {elts : List Expr} {kk : Nat} {tpos p pos : Pos} (hg : Gl X "zip") (hm : X.mg "zip" = none) (he : PE X a (tX mg T E ra)) (hf : PE X b (tX mg T E rb)) (hs : starEach [a, b] X.env = (false, eval a X.env) :: starEach [b] X.env) (hs2 : starEach [b] X.env = [(false, eval b X.env)]) :
    PIH X (.Tuple elts kk tpos) (.Call (.Name "zip" p) [a, b] [] pos) (tI mg T E fun ρ st => (ra ρ st).bind fun x s1 => (rb ρ s1).bind fun y s2 => match x, y with | .list xs, .list ys => .ok (zipL xs ys) s2 | _, _ => .bad) := by
  refine PIH.mono (pih_zipL hg hm (pa_cons he (pa_cons hf pa_nil hs2) hs) hs (by rw [hs2]; rfl)) fun σ H R h => ?_
  obtain ⟨m, ρ, st, Re, w⟩ := h
  refine ⟨m, ρ, st, Re, w.bind.imp fun x m1 s1 H1 R1 E1 w1 v rv => ⟨m1, ρ, s1, Re.ext R1 E1, w1.bind.imp fun y m2 s2 H2 R2 E2 w2 u ru => ?_⟩⟩
  split at w2
  · rename_i xs ys
    have rv' := rv.ext E2
    cases rv' with
    | lst h1 n1 l1 t1 => cases ru with
      | lst h2 n2 l2 t2 =>
        exact ⟨_, _, _, _, rfl, .inl h1, .inl h2, w2.now R2 _ (wk_zip (k := false) (l := false) t1 t2 l1 (fun m3 H3 e => .inl (e.rd h1 n1 fun _ z => by cases z).1) (fun m3 H3 e => .inl (e.rd h2 n2 fun _ z => by cases z).1) fun _ _ _ _ _ => trivial)⟩
  · exact w2.elim
abbrev blkH (X : Cx) (s : Shared) (H : Hp) (scope : Scope) (cenv : Env) (fp : List Addr) (p : Addr × Obj) : Cx := { X.blk s H scope cenv fp with pn := [p] }
theorem inv_pin {X : Cx} {pins : List (Addr × Obj)} {σ : L2.St} {H : Hp} {s : Shared} {p : Addr × Obj} (I : Inv X pins σ H s) (h : X.pn = []) (hp : s.heap.get? p.1 = some p.2 ∧ H p.1 = none ∧ p.1 ≠ X.env.locals ∧ p.1 ∉ X.fs ∧ ∀ v, p.2.data ≠ .cell v) : Inv { X with pn := [p] } pins σ H s where
  ok := ⟨I.ok.mod, I.ok.kind, I.ok.glob, I.ok.blt, I.ok.above, I.ok.inj, I.ok.has, I.ok.cab, I.ok.hd, I.ok.frames, I.ok.stk, I.ok.exf, I.ok.bs, I.ok.bsz, I.ok.noex, I.ok.exfs, I.ok.funs, I.ok.frf⟩
  os := I.os
  bare := I.bare
  base := I.base
  loc := I.loc
  cell := I.cell
  free := I.free
  freeC := I.freeC
  pin := fun q hq => by
    rcases List.mem_append.mp hq with hq | hq
    · rw [List.mem_singleton.mp hq]
      exact hp
    · exact I.pin q (by rw [h]; exact hq)
  hok := I.hok
  len := I.len
theorem inv_unpin {X : Cx} {pins : List (Addr × Obj)} {σ : L2.St} {H : Hp} {s : Shared} {p : Addr × Obj} (h : X.pn = []) (I : Inv { X with pn := [p] } pins σ H s) : Inv X pins σ H s where
  ok := ⟨I.ok.mod, I.ok.kind, I.ok.glob, I.ok.blt, I.ok.above, I.ok.inj, I.ok.has, I.ok.cab, I.ok.hd, I.ok.frames, I.ok.stk, I.ok.exf, I.ok.bs, I.ok.bsz, I.ok.noex, I.ok.exfs, I.ok.funs, I.ok.frf⟩
  os := I.os
  bare := I.bare
  base := I.base
  loc := I.loc
  cell := I.cell
  free := I.free
  freeC := I.freeC
  pin := fun q hq => I.pin q (List.mem_append_right _ (by rw [h] at hq; exact hq))
  hok := I.hok
  len := I.len
theorem pe_lcH {elt tg iter : Expr} {ifs : List Expr} {scope : Scope} {own : List (Str × Nat)} {pos : Pos} {wi : TI} {g : TG} {tt : TT} {te : TE} (hc : HotC X) (hN : X.N.Nodup) (hi : PIH X tg iter wi) (ok : BlkOk X.N X.env.scope scope own)
    (hg : ∀ (s : Shared) (H : Hp) (C : Addr) (cl : List (Str × Addr)) (fp : List Addr) (p : Addr × Obj), Hot1 X.A p → PG (blkH X s H scope (compEnvC scope cl C X.env) fp p) tg g)
    (ht : ∀ (s : Shared) (H : Hp) (C : Addr) (cl : List (Str × Addr)) (fp : List Addr) (p : Addr × Obj), Hot1 X.A p → PTs (blkH X s H scope (compEnvC scope cl C X.env) fp p) ifs tt)
    (he : ∀ (s : Shared) (H : Hp) (C : Addr) (cl : List (Str × Addr)) (fp : List Addr) (p : Addr × Obj), Hot1 X.A p → PE (blkH X s H scope (compEnvC scope cl C X.env) fp p) elt te) (hs : ∀ x, foldedSetIterable iter X.env x = pure x) :
    PE X (.ListComp elt [⟨tg, iter, ifs, 0⟩] scope pos) (tLc wi g tt te (own.map (·.2))) := by
  refine ⟨fun pins s σ H Q I h => ?_⟩
  obtain ⟨p, hot1, hpn⟩ := hc
  rw [eval_ListComp]
  have hfree : ∀ y ∈ scope.names, y.2 = .free → ∃ c, X.env.cells.lookup y.1 = some c := fun y hy e => (ok.free y hy e).elim (fun k => I.ok.has _ (.inl k)) fun k => I.ok.has _ (.inr k)
  refine wpAny_comprehension_free (use := none) rfl hs (closure_ok hfree) ok.kind (fun y hy e => by rw [ok.uniq y hy, e]) (thn (hi.run pins s σ H _ I h) fun xv s1 hx => thn hx fun itv s2 h2 => ?_)
  obtain ⟨it, fp, tn, J, H2, e, I2, Tn, st2, f2, q⟩ := h2
  subst e
  refine wpAny_newObj_type (newEnv_comp ?_) (by show 0 ≤ sizeLine; decide)
  generalize hL : s2.heap.objs.size = L
  have hLn : H2 L = none := I2.hok.fresh (Nat.le_of_eq hL)
  obtain ⟨W, ⟨m0, w0⟩, turn⟩ := q L hLn
  generalize hs3 : ({ s2 with heap := s2.heap.push { cls := .type "list", data := .seq ([] : List Value).toArray } } : Shared) = s3
  have h3 : s3.heap = s2.heap.push { cls := .type "list", data := .seq ([] : List Value).toArray } := by rw [← hs3]
  have I3 : Inv X pins σ (upd H2 L (.lst [])) s3 := by
    rw [← hs3]
    refine I2.laid (t' := s2.toks) (fun b o e => Heap.get?_push_of_some _ e) (Nat.le_of_eq hL) ⟨Nat.zero_le _, [], 0, .nil, ?_⟩
    rw [← hL]
    exact Heap.get?_push_size _ rfl
  have sz : ∀ b ∈ fp, b < s2.heap.objs.size := fun b hb => let ⟨o, e, _⟩ := Tn.obj _ _ st2 b hb; Heap.lt_size e
  have f3 : ∀ b ∈ fp, FpOk X pins (upd H2 L (.lst [])) b ∧ b < s3.heap.objs.size := fun b hb =>
    ⟨⟨by rw [upd_ne (by rw [← hL]; exact Nat.ne_of_lt (sz b hb))]; exact (f2 b hb).1, (f2 b hb).2⟩, by rw [h3, Heap.size_push]; exact Nat.lt_succ_of_lt (sz b hb)⟩
  have st3 : tn 0 s3.heap := Tn.keep _ _ _ st2 fun b _ o e => by rw [h3]; exact Heap.get?_push_of_some _ e
  have P3 := I3.pin p (List.mem_append_left _ hpn)
  have pnf : p.1 ∉ frs X.stack := fun z => (List.mem_cons.mp (I3.stkSub _ z)).elim P3.2.2.1 P3.2.2.2.1
  have I4' := block_start I3 ok hN f3
  have pg := fun cl => hg s3 (upd H2 L (.lst [])) s3.heap.objs.size cl fp p hot1
  have pt := fun cl => ht s3 (upd H2 L (.lst [])) s3.heap.objs.size cl fp p hot1
  have pe := fun cl => he s3 (upd H2 L (.lst [])) s3.heap.objs.size cl fp p hot1
  replace pg := pg (cellsFrom (s3.heap.objs.size + 1) scope.names (cloFrom X.env.cells scope.names []))
  replace pt := pt (cellsFrom (s3.heap.objs.size + 1) scope.names (cloFrom X.env.cells scope.names []))
  replace pe := pe (cellsFrom (s3.heap.objs.size + 1) scope.names (cloFrom X.env.cells scope.names []))
  show codeAny _ _ (.compStart (.ListComp elt [⟨tg, iter, ifs, 0⟩] scope pos) 0 (.ref it) (.ref L) (compEnvC scope (cellsFrom (s3.heap.objs.size + 1) scope.names (cloFrom X.env.cells scope.names [])) s3.heap.objs.size X.env)) (compPost (model X.prog X.w) X.A X.xe none (EP X pins σ Q) (.ref L) s3.heap.objs.size) { s3 with heap := pushCells (s3.heap.push { cls := .type "dict", data := .dict #[] }) scope.names }
  generalize hce : compEnvC scope (cellsFrom (s3.heap.objs.size + 1) scope.names (cloFrom X.env.cells scope.names [])) s3.heap.objs.size X.env = ce at I4' pg pt pe ⊢
  have cL : ce.locals = s3.heap.objs.size := by rw [← hce]; rfl
  have nfp : ∀ b ∈ fp, (upd H2 L (.lst [])) b = none := fun b hb => (f3 b hb).1.1
  generalize hH3 : upd H2 L (.lst []) = H3 at I3 I4' pg pt pe w0 nfp f3 P3
  generalize hs4 : ({ s3 with heap := pushCells (s3.heap.push { cls := .type "dict", data := .dict #[] }) scope.names } : Shared) = s4 at I4' ⊢
  have k34 : ∀ b o, s3.heap.get? b = some o → s4.heap.get? b = some o := fun b o e => by rw [← hs4]; exact pushCells_keeps _ _ _ _ (Heap.get?_push_of_some _ e)
  have I4 : Inv (blkH X s3 H3 scope ce fp p) [] (wipe σ (own.map (·.2))) H3 s4 := inv_pin I4' rfl ⟨k34 _ _ P3.1, P3.2.1, by
    rw [cL]
    exact Nat.ne_of_lt (Heap.lt_size P3.1), pnf, P3.2.2.2.2⟩
  have st4 : tn 0 s4.heap := Tn.keep _ _ _ st3 fun b _ o e => k34 b o e
  have hotB : HotC (blkH X s3 H3 scope ce fp p) := ⟨p, hot1, by simp⟩
  have nep : ∀ b ∈ fp, p.1 ≠ b := fun b hb => (f3 b hb).1.2.2.2.2.2 p (List.mem_append_left _ hpn)
  have stat : ∀ {σ' : L2.St} {H' : Hp} {s' : Shared}, Inv (blkH X s3 H3 scope ce fp p) [] σ' H' s' → (∀ b ∈ fp, H' b = none) → ∀ b ∈ fp, FpOk (blkH X s3 H3 scope ce fp p) [] H' b := fun {σ' H' s'} I' hn b hb =>
    ⟨hn b hb, (I'.ok.exf b hb).1, I'.ok.exfs b hb, .inl hb, fun x c e => (I'.ok.exf b hb).2 x c e, fun r hr => by
      rcases List.mem_append.mp hr with hr | hr
      · rw [List.mem_singleton.mp hr]; exact nep b hb
      · cases hr⟩
  have loop : codeAny (model X.prog X.w) X.A (.compLoop (.ListComp elt [⟨tg, iter, ifs, 0⟩] scope pos) 0 (.ref it) (.ref L) ce) (compPost (model X.prog X.w) X.A X.xe none (EP X pins σ Q) (.ref L) s3.heap.objs.size) s4 := by
    refine compLoop_any (fun n s' => ∃ i H', Inv (blkH X s3 H3 scope ce fp p) [] (wipe σ (own.map (·.2))) H' s' ∧ tn i s'.heap ∧ (∀ b ∈ fp, H' b = none) ∧ W i n H') ?_ m0 ⟨0, H3, I4, st4, nfp, w0⟩
    rintro n s5 ⟨i, H5, I5, st5, n5, w5⟩
    rcases turn i n H5 w5 with ⟨stop, qq⟩ | ⟨go, Nx, hNx, step⟩
    · refine thnF (Tn.done (blkH X s3 H3 scope ce fp p) rfl rfl rfl hotB i [] s5 _ H5 (fun _ _ => False) I5 (stat I5 n5) st5 stop) fun r s6 ⟨hr, I6⟩ => ?_
      subst hr
      have I7 : Inv X pins σ H5 s6 := I3.call' (ch := fp) I6.os I6.base I6.hok I6.bare fun b hb => ⟨(f3 b hb).1.2.2.2.1, (f3 b hb).1.2.1, (f3 b hb).1.2.2.2.2.1, (f3 b hb).1.2.2.2.2.2⟩
      have nC : H5 s3.heap.objs.size = none := by
        have z : H5 ce.locals = none := I6.free
        rwa [cL] at z
      obtain ⟨m, hn, _⟩ := I6.loc
      have hn : s6.heap.Ns ce.locals m := hn
      rw [cL] at hn
      obtain ⟨g0, g1, g2, g3, g4, g5⟩ := I3.fpOk (H' := H5) (Nat.le_refl _) nC
      exact ⟨m, hn, fun h'' sb => ⟨.ref L, H5, I7.turned (t' := s6.toks) (fun b o hb e => (sb.2 b hb).trans e) g0 g1 g3 g4 g5, rfl, qq⟩⟩
    · refine thnF (Tn.item (blkH X s3 H3 scope ce fp p) rfl rfl rfl hotB i [] s5 _ H5 (fun _ _ => False) I5 (stat I5 n5) st5 go) fun r s6 ⟨u, hr, h6⟩ => ?_
      subst hr
      refine thnF h6 fun _ s7 ⟨x, H7, I7, r7, y7, st7, n7⟩ => ?_
      have I7' := I7.pinned (stat I7 n7) (Tn.obj _ _ st7)
      refine thnF (pg.run _ s7 _ H7 x u _ I7' r7 (step x H7 y7)) fun _ s8 ⟨σ8, H8, I8, hw8, q8⟩ => ?_
      refine thnF (pt.run _ s8 σ8 H8 _ I8 q8) fun b s9 ⟨H9, I9, q9⟩ => ?_
      have fin : ∀ {s' : Shared} {H' : Hp}, Inv (blkH X s3 H3 scope ce fp p) ([] ++ pinsAt fp s7.heap) σ8 H' s' → Nx H' → ∃ m, m < n ∧ ∃ i H', Inv (blkH X s3 H3 scope ce fp p) [] (wipe σ (own.map (·.2))) H' s' ∧ tn i s'.heap ∧ (∀ b ∈ fp, H' b = none) ∧ W i m H' := fun {s' H'} I' nx => by
        obtain ⟨m', hm, w'⟩ := hNx H' nx
        have pin' : ∀ b ∈ fp, ∀ o, s7.heap.get? b = some o → s'.heap.get? b = some o ∧ H' b = none := fun b hb o e =>
          let z := I'.pin (b, o) (List.mem_append_right _ (List.mem_append_right _ (mem_pinsAt hb e)))
          ⟨z.1, z.2.1⟩
        refine ⟨m', hm, i + 1, H', (I'.unpinned (pins := [])).weak (by rw [← hw8, wipe_length]) (fun j v e => ?_), Tn.keep _ _ _ st7 fun b hb o e => (pin' b hb o e).1, fun b hb => ?_, w'⟩
        · rw [← hw8] at e
          exact (wipe_some e).1
        · obtain ⟨o, e, _⟩ := Tn.obj _ _ st7 b hb
          exact (pin' b hb o e).2
      cases b with
      | false =>
        simp only [Bool.false_eq_true, if_false] at q9 ⊢
        exact fin I9 q9
      | true =>
        simp only [if_true] at q9 ⊢
        refine thnF (pe.run _ s9 σ8 H9 _ I9 q9) fun z s10 ⟨yv, H10, I10, r10, acc, hD10, hz10, nx⟩ => ?_
        exact app_ok (X := blkH X s3 H3 scope ce fp p) I10 hD10 hz10 r10 fun s11 I11 => fin I11 nx
  exact codeAny_compStart_list loop (Tn.self X.A 0 _ _ _ st4 loop)
end
end MP
set_option Elab.async false
set_option linter.all false
set_option maxRecDepth 100000
set_option maxHeartbeats 1000000
namespace MP
open PySem PySem.Spec PyProof.Rows L2 HotX L2H

structure HC (X : Cx) (mg : MG) (N : List Str) (sc lsc : Scope) (T : List (Addr × Str)) (E : XK) (ev : Str) (xt : Str → Option Bool) : Prop where
  fr : FrH X N lsc
  hsc : X.env.scope = sc
  blt : ∀ x ∈ bnm, X.mg x = none
  exi : ∀ c b p q q2 pos, xt c = some b → glB sc c = true → glB sc "isinstance" = true → PE X (.Call (.Name "isinstance" p) [.Name ev q, .Name c q2] [] pos) (tX mg T E (exv N ev b))
section
variable {X : Cx} {mg : MG} {T : List (Addr × Str)} {N : List Str} {E : XK} {sc lsc : Scope} {ev : Str} {xt : Str → Option Bool}
theorem HC.vis (c : HC X mg N sc lsc T E ev xt) {x : Str} (h : visB sc x = true) : Vis X.env.scope x := by
  rw [c.hsc]
  unfold visB at h
  split at h
  · exact .inl (by assumption)
  · exact .inr (.inl (by assumption))
  · exact .inr (.inr (by assumption))
  · cases h
theorem HC.gl (c : HC X mg N sc lsc T E ev xt) {x : Str} (h : glB sc x = true) : Gl X x := by
  show X.env.scope.names.lookup x = _
  rw [c.hsc]
  unfold glB at h
  split at h
  · assumption
  · cases h
theorem HC.blk (c : HC X mg N sc lsc T E ev xt) {scope : Scope} {s : Shared} {H : Hp} {C : Addr} {cl : List (Str × Addr)} {fp : List Addr} {p : Addr × Obj} (hp : Hot1 X.A p) : HC (blkH X s H scope (compEnvC scope cl C X.env) fp p) mg N (relS scope sc) scope T E0 ev (fun _ => none) where
  fr := ⟨⟨p, hp, by simp⟩, c.fr.nd, c.fr.hN, fun x h => (by
      show Loc (relS scope X.env.scope) x ∧ ((scope.names.lookup x == some .cell) = true ∨ (relS scope X.env.scope).names.lookup x = some .local)
      unfold locB at h
      split at h
      · rename_i e
        have := lookup_relS_keep (sc := X.env.scope) (by decide) e
        exact ⟨.inl this, .inr this⟩
      · rename_i e
        have := lookup_relS_keep (sc := X.env.scope) (by decide) e
        exact ⟨.inr this, .inl (by rw [e]; rfl)⟩
      · cases h)⟩
  hsc := by
    show relS scope X.env.scope = _
    rw [c.hsc]
  blt := c.blt
  exi := fun _ _ _ _ _ _ h => by cases h
theorem evHL_len {ρ : Rho} : ∀ {n : Nat} {es : List Expr} {st s : Sto} {ds : List D}, evHL N ev xt n es ρ st = .ok ds s → ds.length = es.length
  | 0, _, _, _, _, h => by cases h
  | n + 1, [], _, _, _, h => by cases h; rfl
  | n + 1, e :: es, _, _, _, h => by
    obtain ⟨d, s1, _, h⟩ := bind_ok_inv (show ((evH N ev xt n e ρ _).bind fun d s1 => (evHL N ev xt n es ρ s1).bind fun ds s2 => .ok (d :: ds) s2) = _ from h)
    obtain ⟨r, s2, h1, h⟩ := bind_ok_inv h
    cases h
    rw [List.length_cons, List.length_cons, evHL_len h1]
/-- no list is an object there -/
def G0 : Glb := { isDef := fun _ => false, isExc := fun _ => false, isHnd := fun _ => false, call := fun _ _ _ => .bad, cst := fun _ => none, hnd := fun _ => none, mkr := fun _ => false, frz := fun _ => false }
theorem isTup_zip {ρ : Rho} {st s1 : Sto} {ra rb : Rho → Sto → Res D} {xs : List D} (h : ((ra ρ st).bind fun x s1 => (rb ρ s1).bind fun y s2 => match x, y with | .list xs, .list ys => .ok (zipL xs ys) s2 | _, _ => .bad) = .ok xs s1) : ∀ x ∈ xs, isTup x := by
  obtain ⟨x, s2, _, h⟩ := bind_ok_inv h
  obtain ⟨y, s3, _, h⟩ := bind_ok_inv h
  split at h
  · cases h
    intro x hx
    unfold zipL at hx
    obtain ⟨i, hi, e⟩ := List.mem_iff_getElem.mp hx
    rw [List.getElem_zipWith] at e
    rw [← e]
    trivial
  · cases h
theorem snd_h : ∀ (n : Nat), (∀ {X : Cx} {sc lsc : Scope} {E : XK} {xt : Str → Option Bool} (e : Expr), HC X mg N sc lsc T E ev xt → ckH N ev n sc e = true → PE X e (tX mg T E (evH N ev xt n e))) ∧
    (∀ {X : Cx} {sc lsc : Scope} {E : XK} {xt : Str → Option Bool} (es : List Expr), HC X mg N sc lsc T E ev xt → ckHL N ev n sc es = true → PA X es (tL mg T E (evHL N ev xt n es))) := by
  intro n
  induction n with
  | zero => exact ⟨fun e c h => pe_bad fun _ _ => rfl, fun e c h => pa_bad fun _ _ => rfl⟩
  | succ n ih =>
    obtain ⟨ihE, ihL⟩ := ih
    refine ⟨fun {X sc lsc E xt} e c h => ?_, fun {X sc lsc E xt} es c h => ?_⟩
    · unfold ckH at h
      split at h
      · rename_i x pos
        simp only [Bool.and_eq_true] at h
        obtain ⟨n1, n2, n3⟩ := nmB_of h.1.1
        obtain ⟨i, hs⟩ := Option.isSome_iff_exists.mp h.2
        have ee : evH N ev xt (n + 1) (.Name x pos) = fun ρ st => match ρ[i]? with | some (some d) => .ok d st | _ => .bad := by
          funext ρ st
          simp only [evH, hs]
          all_goals rfl
        rw [ee]
        refine PE.mono (pe_var (by rw [c.fr.hN]; exact slot_at hs) (c.vis h.1.2) n1 n2) fun σ H Q w => tx_var (mg := mg) (T := T) (E := E) (G := G0) (pos := pos) w
      · exact pe_cst
      · rw [Bool.and_eq_true, decide_eq_true_eq] at h
        exact pe_lst1 (G := G0) (Nat.le_trans h.1 (by decide)) (ihL _ c h.2) fun ρ st ds s e => evHL_len e
      · rw [Bool.and_eq_true] at h
        exact pe_bin (G := G0) (ihE _ c h.1) (ihE _ c h.2)
      · rename_i f p y q cc q2 pos
        simp only [Bool.and_eq_true, decide_eq_true_eq] at h
        obtain ⟨⟨⟨rfl, rfl⟩, h3⟩, h4⟩ := h
        cases hx : xt cc with
        | none => exact pe_bad fun ρ st => by simp only [evH, hx]; rfl
        | some b =>
          have ee : evH N y xt (n + 1) (.Call (.Name "isinstance" p) [.Name y q, .Name cc q2] [] pos) = exv N y b := by
            funext ρ st
            simp only [evH, hx, if_true]
          rw [ee]
          exact c.exi cc b p q q2 pos hx h4 h3
      · rename_i o m apos a pos
        simp only [Bool.and_eq_true, Bool.or_eq_true, decide_eq_true_eq] at h
        obtain ⟨⟨⟨⟨⟨h1, h2⟩, h3⟩, h4⟩, h5⟩, h6⟩ := h
        have hline : (apos.endLine == pos.line) = true := by rw [h3]; exact beq_self_eq_true _
        have hO := ihE o c h4
        have hA := ihL [a] c h6
        have na : m ≠ "append" := by rcases h2 with z | z <;> rw [z] <;> decide
        have nc : m ≠ "count" := by rcases h2 with z | z <;> rw [z] <;> decide
        have go : ∀ {id : String}, Slot "str" m id → typeOf (.builtin id) = pure (.type "method_descriptor") → MtR X id (rMt mg T m) → PE X (.Call (.Attribute o m apos) [a] [] pos) (tX mg T E (evH N ev xt (n + 1) (.Call (.Attribute o m apos) [a] [] pos))) := by
          intro id sl ty hm
          refine PE.mono (pe_bm F.plainAttrs_str sl ty hm hO hA (base_of h1) (few_of h5) hline (star_cons h5) rfl) fun σ H Q h => ?_
          obtain ⟨m0, ρ, st, R, w⟩ := h
          refine ⟨m0, ρ, st, R, (Wok.bind w).imp fun x m1 s1 H1 R1 E1 w1 v rv => ?_⟩
          split at w1
          · exact w1.elim
          · rename_i hr
            refine ⟨(rcv_ty R1 rv hr).2 na nc, m1, ρ, s1, R.ext R1 E1, w1.bind.imp fun ds m2 s2 H2 R2 E2 w2 vs rvs => ?_⟩
            rw [if_neg na] at w2
            obtain ⟨d, e, w2⟩ := w2.lift
            exact ⟨m2, s2, x, ds, d, R2, rv.ext E2, rvs, by rw [cntS_ne nc]; exact e, giv_of w2⟩
        rcases h2 with z | z
        · subst z
          exact go F.slot_str_split F.type_str_split mb_split
        · subst z
          exact go F.slot_str_join F.type_str_join mb_join
      · rename_i elt ts kk p z p1 a b p2 cc scope pos
        simp only [Bool.and_eq_true, List.all_eq_true, decide_eq_true_eq] at h
        obtain ⟨⟨⟨⟨⟨⟨⟨⟨⟨⟨⟨rfl, h1⟩, h2⟩, h3⟩, h4⟩, h5⟩, h6⟩, h7⟩, h8⟩, h9⟩, h10⟩, h11⟩ := h
        have ok : BlkOk X.N X.env.scope scope (ownSl N scope) := by
          rw [c.fr.hN, c.hsc]
          exact blkOk_by h6
        have hi := pih_zip1 (X := X) (T := T) (E := E) (elts := ts) (kk := kk) (tpos := p) (p := p1) (pos := p2) (c.gl h1) (c.blt _ (by decide)) (ihE a c h4) (ihE b c h5) (star_cons h2) (star_cons h3)
        refine PE.mono (pe_lcH (own := ownSl N scope) (g := gTp mg isTup N (.Tuple ts kk p)) (tt := tT mg T E0 fun ρ st => (evH N ev (fun _ => none) n cc ρ st).bind tob) (te := tX mg T E0 fun ρ st => evH N ev (fun _ => none) n elt ρ st) c.fr.hot (by rw [c.fr.hN]; exact c.fr.nd) hi ok (fun s H C cl fp q hq => pg_tH (c.blk hq).fr h7) (fun s H C cl fp q hq => ?_) (fun s H C cl fp q hq => ihE elt (c.blk hq) h11) (fun _ => rfl)) fun σ H Q w => ?_
        · have hE := ihE cc (c.blk (scope := scope) (s := s) (H := H) (C := C) (cl := cl) (fp := fp) hq) h10
          cases cc with
          | Name x pp => exact pts_one (pt_of hE fun _ => rfl)
          | _ => exact Bool.noConfusion h9
        · refine tlc_of isTup (fun ρ st xs s1 e => isTup_zip e) h8 ?_
          have ee : evH N ev xt (n + 1) (.ListComp elt [⟨.Tuple ts kk p, .Call (.Name "zip" p1) [a, b] [] p2, [cc], 0⟩] scope pos) = fun ρ st => ((evH N ev xt n a ρ st).bind fun x s1 => (evH N ev xt n b ρ s1).bind fun y s2 => match x, y with | .list xs, .list ys => .ok (zipL xs ys) s2 | _, _ => .bad).bind fun xs s1 =>
              (compGo xs (compF N ((ownSl N scope).map (·.2)) (.Tuple ts kk p) (fun ρ st => (evH N ev (fun _ => none) n cc ρ st).bind tob) (fun ρ st => evH N ev (fun _ => none) n elt ρ st) ρ) s1).bind fun ds s4 => .ok (.list ds) s4 := by
            funext ρ st
            simp only [evH, if_true]
            all_goals rfl
          rw [ee] at w
          exact w
      · cases h
    · cases es with
      | nil => exact pa_nil1
      | cons e es =>
        have h' : (noStar e && ckH N ev n sc e && ckHL N ev n sc es) = true := h
        simp only [Bool.and_eq_true] at h'
        exact pa_cons1 h'.1.1 (ihE e c h'.1.2) (ihL es c h'.2)
theorem snd_hs (c : HC X mg N sc sc T E ev xt) (n : Nat) : ∀ (ss : List Stmt), ckHS N ev n sc ss = true → PSs X ss (tS mg T E (exH N ev xt n ss)) := by
  intro ss
  induction ss with
  | nil => exact fun _ => PSs.mono pss_nil fun D' σ H ⟨m, ρ, st, R, w⟩ => w.now R.rs σ R.re
  | cons s ss ih =>
    intro h
    unfold ckHS at h
    split at h
    · rename_i h0; cases h0
    · rename_i x p e pos ss' h0
      cases h0
      simp only [Bool.and_eq_true] at h
      obtain ⟨⟨⟨⟨h1, h2⟩, h3⟩, h4⟩, h5⟩ := h
      obtain ⟨i, hs⟩ := Option.isSome_iff_exists.mp h2
      obtain ⟨l1, l2⟩ := c.fr.loc x h1
      refine PSs.mono (pss_cons (ps_set (i := i) (by rw [c.fr.hN]; exact c.fr.nd) (by rw [c.fr.hN]; exact slot_at hs) l1 ((snd_h (mg := mg) (T := T) n).1 e c h4) (nc_sw h3 _ _ _) l2) (ih h5)) fun D' σ H w => ?_
      obtain ⟨m, ρ, st, R, w⟩ := w
      refine ⟨m, ρ, st, R, (Wok.bind w).imp fun d m1 s1 H1 R1 E1 w1 v rv => ?_⟩
      simp only [hs] at w1
      exact ⟨m1, _, s1, ⟨R1, (R.re.ext E1).set rv⟩, w1⟩
    · rename_i e pos ss' h0
      cases h0
      refine PSs.mono (pss_cons (ps_ret ((snd_h (mg := mg) (T := T) n).1 e c h)) (pss_never (sts := ss))) fun D' σ H w => ?_
      obtain ⟨m, ρ, st, R, w⟩ := w
      exact ⟨m, ρ, st, R, (Wok.bind w).imp fun d m1 s1 H1 R1 E1 w1 v rv => w1.now R1 v rv⟩
    · cases h
end
end MP
set_option Elab.async false
set_option linter.all false
set_option maxRecDepth 100000
set_option maxHeartbeats 1000000
namespace MP
open PySem PySem.Spec PyProof.Rows L2 HotX L2H
section
variable {mg : MG} {T : List (Addr × Str)} {m : MA} {st : Sto} {H H1 : Hp}
theorem ext_extN (e : LamX.ExtN H H1) : Ext0 m H m H1 := ⟨fun a o h _ nt => e a o h nt, fun _ l => .inl l, fun _ _ _ h => h, Nat.le_refl _⟩
theorem RS.extN (r : RS mg T m st H) (e : LamX.ExtN H H1) (t : LamX.Tabs T H1) : RS mg T m st H1 ∧ Ext m H m H1 := by
  refine ⟨⟨r.len, r.nd, fun n a h => let ⟨xs, vs, h1, h2, h3, h4, h5⟩ := r.obs n a h; ⟨xs, vs, h1, e a _ h2 (fun ps z => by cases z), h3, h4.ext0 (ext_extN e), h5⟩, r.ded, fun a h => let ⟨⟨vs, q⟩, g⟩ := r.hid a h; ⟨⟨vs, e a _ q fun ps z => by cases z⟩, g⟩, t⟩, ⟨ext_extN e, rfl, fun a h => ?_⟩⟩
  obtain ⟨⟨vs, q⟩, _⟩ := r.hid a h
  rw [q]
  exact e a _ q fun ps z => by cases z
end
def lamCxN (X : Cx) (A : Around) (outer : List Env) (s : Shared) (H : Hp) (E : XK) (scope : Scope) (f c' : Addr) : Cx :=
  { LamX.lamCx X A outer s H E scope f c' with xe := fun e s' => wpAny (model X.prog X.w) (A.deeper (LamX.lamEnv X scope s.heap.objs.size f c')) (leaving (LamX.lamEnv X scope s.heap.objs.size f c') e) (fun _ s'' => L2N.CX X.prog X.w outer H s E e s'') (fun e' s'' => L2N.CX X.prog X.w outer H s E e' s'') s' }
theorem inv_lamN {X : Cx} {A : Around} {outer : List Env} {s : Shared} {H HZ : Hp} {E : XK} {scope : Scope} {f c' : Addr} {σ : L2.St} {s1 : Shared} (I : Inv (LamX.lamCx X A outer s H E scope f c') [] σ HZ s1) : Inv (lamCxN X A outer s H E scope f c') [] σ HZ s1 := Inv.wish I _
section
variable {X : Cx} {pins : List (Addr × Obj)} {σ : L2.St} {H : Hp} {s : Shared}
/-- x(), in the def that got the lambda -/
theorem pe_actN {Ng : List Str} {qg : Str} {sg : Scope} {g f c' : Addr} {cdg pm ctv : Value} {params : Arguments} {body : Expr} {scope : Scope} {k i : Nat} {a : Str} {pn : List (Addr × Obj)} {xe xe0 : Value → Shared → Prop} {W : WX} {E Eg : XK} {CXg : CXT} {tb : TE} {p1 p2 : Pos}
    (I : Inv X pins σ H s) (L : LamX.LamS X.env.scope scope) (hf : s.heap.get? f = some (PySem.W.kla_obj "<lambda>" (X.env.qual ++ "<lambda>") params body scope (cloFrom X.env.cells scope.names []) pm c' ctv)) (hfn : H f = none) (hfr : f ∉ frs X.stack)
    (hbind : bindArgs (PySem.W.kla_fn "<lambda>" (X.env.qual ++ "<lambda>") params body scope (cloFrom X.env.cells scope.names []) pm (.ref c') ctv) ⟨[], []⟩ = pure [])
    (tk : L2N.Takes (((cxOf CXg X.prog X.w X.K X.mg X.base Ng qg sg g cdg X.A X.stack s H Eg).wish xe0).tr pn xe) W) (hW : ∀ cls d σ' H', E cls d H' → W cls d σ' H') (hr : Room (k + 1) (X.A.deeper (envOfC qg sg s.heap.objs.size g cdg)))
    (hbody : ∀ (A : Around) (outer : List Env) (s : Shared) (H : Hp), Room k (A.deeper (LamX.lamEnv X scope s.heap.objs.size f c')) → PE (lamCxN X A outer s H E scope f c') body tb)
    (hN : Ng[i]? = some a) (hv : Vis sg a) (hd : (a == ("__debug__" : Str)) = false) (hcd : (a == ("__classdict__" : Str)) = false) :
    PE (((cxOf CXg X.prog X.w X.K X.mg X.base Ng qg sg g cdg X.A X.stack s H Eg).wish xe0).tr pn xe) (.Call (.Name a p1) [] [] p2)
      (fun σZ HZ Q => σZ[i]? = some (some (.ref f)) ∧ HZ c' = some (LamX.CodeO c' (X.env.qual ++ "<lambda>")) ∧ tb σ HZ Q) := by
  refine ⟨fun pinsZ sZ σZ HZ Q IZ h => ?_⟩
  obtain ⟨hs, hc, ht⟩ := h
  refine wpAny_Call_Name_kw (thn ((pe_var (pos := p1) (i := i) hN hv hd hcd).run pinsZ sZ σZ HZ (fun v H1 => v = .ref f ∧ H1 = HZ) IZ ⟨.ref f, hs, rfl, rfl⟩) fun u s1 ⟨v, H1, I1, r1, q1⟩ => ?_)
  obtain ⟨ev, eH⟩ := q1
  subst ev
  rw [eH] at I1
  obtain rfl : u = Value.ref f := r1
  have of1 : s1.heap.get? f = some (PySem.W.kla_obj "<lambda>" (X.env.qual ++ "<lambda>") params body scope (cloFrom X.env.cells scope.names []) pm c' ctv) := I1.base.keep f _ hf hfn hfr (fun z => nomatch (show f ∈ ([] : List Addr) from z))
  refine PySem.W.callWith_F0 ⟨_, _, _, _, of1⟩ ?_
  have un : Un (frs X.stack) [] H HZ s.heap s1.heap := I1.base
  obtain ⟨⟨oc, vs, t, hoc, hdc, hvc⟩, _, _⟩ := I1.hok c' _ hc
  have rc : codeAny (model X.prog X.w) (X.A.deeper (envOfC qg sg s.heap.objs.size g cdg)) (.call (.ref f) ⟨[], []⟩) (CR (L2N.CX X.prog X.w) (envOfC qg sg s.heap.objs.size g cdg :: X.stack) X.prog X.w HZ s1 Q E) s1 := by
    refine PySem.W.kla_callFunE hr.depth of1 rfl L.co L.gen rfl ⟨c', oc, vs, t, rfl, hoc, hdc, hvc⟩ ?_
    rw [hbind]
    refine wpAny_pure (wpAny_newFunctionEnv (fun y hy => (L.own y hy).2) (fun y hy => absurd hy (by simp)) (fun h₁ hns hsb => ⟨I1.nolimit.fresh _ hsb, ?_⟩) L.kind)
    show codeAny _ _ (.expr body (LamX.lamEnv X scope s1.heap.objs.size f c')) _ _
    have kp : ∀ b o, s1.heap.get? b = some o → h₁.get? b = some o := fun b o e => hsb.extBut b o (Nat.ne_of_lt (Heap.lt_size e)) (Heap.get?_push_of_some _ e)
    have J := inv_lamN (LamX.lam_start2 (E := E) (tk := s1.toks + ([] : List (Str × Value)).length) (f := f) (c' := c') I L I1.env0 hr.hd un hns kp)
    refine PySem.W.kla_codeExpr (wpAny_mono ((hbody _ _ s1 HZ (hr.deeper _)).run [] _ _ HZ Q J ht) (fun v s' hq => ?_) fun e s' hq => hq)
    obtain ⟨w', H', J', rv, q⟩ := hq
    exact ⟨w', H', J'.os, J'.bare, J'.base, J'.hok, rv, q⟩
  have hx : Passes (L2N.CX X.prog X.w) (((cxOf CXg X.prog X.w X.K X.mg X.base Ng qg sg g cdg X.A X.stack s H Eg).wish xe0).tr pn xe) E := L2N.passes_call tk hW
  refine wpAny_call (codeAny_mono rc fun r s' hq => ?_)
  cases r with
  | error e => exact hx pinsZ σZ HZ s1 e s' I1 hq
  | ok fl =>
    cases fl with
    | ret u => exact I1.after hq
    | next => exact False.elim hq
    | brk => exact False.elim hq
    | cont => exact False.elim hq
end
/-- isinstance(e, c), e the exception that is handled -/
theorem call_isY {X : Cx} {a D : Addr} {oe : Obj} (hp : (a, oe) ∈ X.pn) (C : ExcC X.K D) (hz : L2.Zc (.ref D) none oe) (hf : ∃ vs, oe.data = .fields vs) : CallR X (.builtin "isinstance") (rIsE X.K D a) := by
  intro pins s σ H xs us Q I r h
  obtain ⟨c, cv, b, rfl, hcv, e, q⟩ := h
  obtain ⟨u1, u2, rfl, rx, rt⟩ := vals2 r
  cases rx
  obtain rfl := hcv _ rt
  obtain ⟨hget, _⟩ := I.pin (a, oe) (List.mem_append_left _ hp)
  obtain ⟨vs, hv⟩ := hf
  have J : PySem.W.InstAt s.heap a oe D none := by
    obtain ⟨oc, od, oda, osl⟩ := oe
    obtain ⟨h1, h2⟩ := hz
    dsimp only at h1 h2 hv
    subst h1 h2 hv
    exact ⟨hget, rfl, rfl, trivial⟩
  exact PySem.W.kia_one (PySem.W.handS_kitx_exc C.hg C.hk C.hs C.hd C.ha C.hn C.ht C.hm) I.kIn J e (fun z => nomatch z) fun tk => ⟨.bl b, H, I.kept (t' := tk) fun _ _ z => z, rfl, q⟩
/-- a def called while an exception is handled, its promise told of the very state -/
theorem run_hot {CX : CXT} {P : Program} {w : World} {K : PySem.W.Frag} {mg : MG} {base : Heap} {k : Nat} {f : Addr} {name qual : Str} {params : Arguments} {body : List Stmt} {scope : Scope} {fd : FuncData} {N ps : List Str} (F : FunD K name qual params body scope [] [] f fd) (S : FnScope N ps scope)
    {A : Around} {outer : List Env} {s : Shared} {H : Hp} {args : Args} {us : List Value} {vs : List V} {Q : VK} {E : XK} {p : Addr × Obj} (hr : RoomH (k + 1) A) (hpin : PinOk outer H s p) (e0 : Env0 P w K mg base A outer s H) (hb : BindsTo s fd args (ps.zip us)) (r : Vals vs us) (hl : vs.length = ps.length)
    (hbody : ∀ cdv, RoomH k (A.deeper (envOfC qual scope s.heap.objs.size f cdv)) → ∃ t, PSs (cxH CX P w K mg base N qual scope f cdv A outer s H E p) body t ∧ t { nx := fun _ H' => Q .non H', rt := Q } (L2.start N vs) H) :
    codeAny (model P w) A (.call (.ref f) args) (CR CX outer P w H s Q E) s := by
  obtain ⟨oc, od, dV, kV, doc, pm, an, cdv, ct, osl, rfl, lk, hcd, _, _⟩ := F.ex
  have KX : K.In s.heap := e0.mod.kin.keeps fun b o e => (e0.bs b o e).1
  have lim : s.heap.NoLimit := e0.mod.nolimit.keeps fun b o e => (e0.bs b o e).1
  refine codeAny_call_function hr.depth (KX _ _ lk) rfl S.co S.gen rfl (PySem.W.codeRec_of KX hcd) (hb _ _ _ _ ?_)
  refine wpAny_newFunctionEnv_cells S.kind (fun ⟨n, v⟩ hy => (S.par n (List.of_mem_zip hy).1).elim .inl fun q => .inr ⟨q, PySem.W.cellsFrom_some _ _ _ (.inl q)⟩) fun env he s1 x => ?_
  subst he
  refine ⟨lim.keeps x.toInCall.keep, codeAny_func ?_⟩
  obtain ⟨t, ht, hq⟩ := hbody cdv (hr.deeper _)
  have I : Inv (cxH CX P w K mg base N qual scope f cdv A outer s H E p) [] (L2.start N vs) H s1 := inv_startH S hpin e0 hl r x
  refine wpAny_mono (ht.run [] s1 (L2.start N vs) H _ I hq) (fun fl s' hs => ?_) fun e s' hs => hs
  have fin : ∀ {σ' : L2.St} {H' : Hp} {v : V} {u : Value}, Inv (cxH CX P w K mg base N qual scope f cdv A outer s H E p) [] σ' H' s' → RelV v u → Q v H' → CE outer P w H s Q u s' :=
    fun {σ' H' v u} J rv q => ⟨v, H', J.os, J.bare, J.base, J.hok, rv, q⟩
  cases fl with
  | ret u => obtain ⟨v, σ', H', J, rv, q⟩ := hs; exact fin J rv q
  | next => obtain ⟨σ', H', J, q⟩ := hs; exact fin (v := V.non) (u := Value.none) J rfl q
  | brk => obtain ⟨_, _, _, q⟩ := hs; exact False.elim q
  | cont => obtain ⟨_, _, _, q⟩ := hs; exact False.elim q
end MP
set_option Elab.async false
set_option linter.all false
set_option maxRecDepth 100000
set_option maxHeartbeats 1000000
namespace MP
open PySem PySem.Spec PyProof.Rows L2 HotX L2H

/-- the wish at the suite: the class is one that is named -/
def NmOk (K : PySem.W.Frag) (mg : MG) (T : List (Addr × Str)) (c : Catcher) (cls : Value) (d : Option Addr) (H : Hp) (Q : VK) : Prop :=
  ∃ C txt xt m st, cls = .ref C ∧ d = none ∧ ExcC K C ∧ XtOk K mg C xt ∧ (∀ st, exH c.nN c.np xt c.nn c.nbody (startR c.nN [dexc]) st = .ok (.rt (.str txt)) st) ∧ RS mg T m st H ∧ ∀ m' H', RS mg T m' st H' → Ext m H m' H' → Q (.str txt) H'
def mgx (mg : MG) (a : Addr) : MG := fun x => if x = "!" then some (.ref a) else mg x
section
variable {mg mg' : MG} {m m' : MA} {H H' : Hp}
mutual
theorem RV.mg_mono (h : ∀ x v, mg x = some v → mg' x = some v) : ∀ {v : V} {d : D}, RV mg m H v d → RV mg' m H v d
  | _, _, .non => .non
  | _, _, .bl b => .bl b
  | _, _, .int i => .int i
  | _, _, .str s => .str s
  | _, _, .lst r nl l t => .lst r nl l (RVs.mg_mono h t)
  | _, _, .tup r nl l t => .tup r nl l (RVs.mg_mono h t)
  | _, _, .obj a b => .obj a b
  | _, _, .gl e => .gl (h _ _ e)
  | _, _, .ex e h1 h2 n1 n2 => .ex (h _ _ e) h1 h2 n1 n2
  | _, _, .et e h1 h2 n1 n2 => .et (h _ _ e) h1 h2 n1 n2
theorem RVs.mg_mono (h : ∀ x v, mg x = some v → mg' x = some v) : ∀ {vs : List V} {ds : List D}, RVs mg m H vs ds → RVs mg' m H vs ds
  | _, _, .nil => .nil
  | _, _, .cons a t => .cons (RV.mg_mono h a) (RVs.mg_mono h t)
end
mutual
theorem RV.mg_back (h : ∀ x v, mg x = some v → mg' x = some v) : ∀ {v w : V} {d : D}, RV mg' m' H' v d → RV mg m H w d → RV mg m' H' v d
  | _, _, _, .non, _ => .non
  | _, _, _, .bl b, _ => .bl b
  | _, _, _, .int i, _ => .int i
  | _, _, _, .str s, _ => .str s
  | _, _, _, .lst r nl l t, .lst _ _ _ u => .lst r nl l (RVs.mg_back h t u)
  | _, _, _, .tup r nl l t, .tup _ _ _ u => .tup r nl l (RVs.mg_back h t u)
  | _, _, _, .obj a b, _ => .obj a b
  | _, _, _, .gl e, .gl f => .gl (by
    have := h _ _ f
    rw [e] at this
    rw [f, this])
  | _, _, _, .ex e h1 h2 n1 n2, .ex f _ _ _ _ => .ex (by
    have := h _ _ f
    rw [e] at this
    rw [f, this]) h1 h2 n1 n2
  | _, _, _, .et e h1 h2 n1 n2, .et f _ _ _ _ => .et (by
    have := h _ _ f
    rw [e] at this
    rw [f, this]) h1 h2 n1 n2
theorem RVs.mg_back (h : ∀ x v, mg x = some v → mg' x = some v) : ∀ {vs ws : List V} {ds : List D}, RVs mg' m' H' vs ds → RVs mg m H ws ds → RVs mg m' H' vs ds
  | _, _, _, .nil, _ => .nil
  | _, _, _, .cons a t, .cons b u => .cons (RV.mg_back h a b) (RVs.mg_back h t u)
end
theorem RS.mg_mono {T : List (Addr × Str)} {st : Sto} (h : ∀ x v, mg x = some v → mg' x = some v) (r : RS mg T m st H) : RS mg' T m st H :=
  ⟨r.len, r.nd, fun n a q => let ⟨xs, vs, h1, h2, h3, h4, h5⟩ := r.obs n a q; ⟨xs, vs, h1, h2, h3, h4.mg_mono h, h5⟩, r.ded, r.hid, r.tabs⟩
theorem RS.mg_back {T : List (Addr × Str)} {st : Sto} (h : ∀ x v, mg x = some v → mg' x = some v) (r : RS mg T m st H) (e : Ext m H m' H') (r' : RS mg' T m' st H') : RS mg T m' st H' := by
  refine ⟨r'.len, r'.nd, fun n a q => ?_, r'.ded, r'.hid, r'.tabs⟩
  obtain ⟨xs, vs, h1, h2, h3, h4, h5⟩ := r'.obs n a q
  have hn : n < m.l.length := by
    have := (List.getElem?_eq_some_iff.mp h1).1
    rw [r.len]; exact this
  obtain ⟨xs2, vs2, g1, g2, g3, g4, g5⟩ := r.obs n a (e.old n a hn q)
  rw [h1] at g1
  cases g1
  exact ⟨xs, vs, h1, h2, h3, RVs.mg_back h h4 g4, h5⟩
end
section
variable {X : Cx} {T : List (Addr × Str)}
theorem vis_of {sc : Scope} {x : Str} (h : visB sc x = true) : Vis sc x := by
  unfold visB at h
  split at h
  · exact .inl (by assumption)
  · exact .inr (.inl (by assumption))
  · exact .inr (.inr (by assumption))
  · cases h
theorem gl_of {sc : Scope} {x : Str} (h : glB sc x = true) : sc.names.lookup x = some .globalImplicit := by
  unfold glB at h
  split at h
  · assumption
  · cases h
/-- the names of the class, in a context where the exception is handled -/
theorem pe_names {hnd : Str → Option D} {c : Catcher} {f : Str} {k : Nat} (nob : X.mg "!" = none) (F : HndF X.K X.mg hnd c f) (blt : ∀ x ∈ bnm, X.mg x = none) {a : Addr} {oe : Obj} {cls : Value} {d : Option Addr} (hA : Hot1 X.A (a, oe)) (hpn : (a, oe) ∈ X.pn) (hz : L2N.Zn cls d oe) (hf : ∃ vs, oe.data = .fields vs) (hr : RoomH (k + 1) X.A)
    (hsc : X.env.scope = c.sg) (hN : X.N = c.Ng) : PE X (.Call (.Name c.nm c.p5) [.Name c.ev c.p6] [] c.p7) (fun σ H Q => σ[c.i]? = some (some (.ref a)) ∧ NmOk X.K X.mg T c cls d H Q) := by
  refine ⟨fun pins s σ H Q I h => ?_⟩
  obtain ⟨hs, C, txt, xt, m, st, rfl, rfl, eC, hx, hex, R, q⟩ := h
  obtain ⟨n1, n2, n3⟩ := nmB_of F.nb.2.2.2
  obtain ⟨v1, v2, v3⟩ := nmB_of F.nb.2.2.1
  have hg : Gl X c.nm := by
    show X.env.scope.names.lookup c.nm = _
    rw [hsc]
    exact gl_of F.gnm
  refine wpAny_Call_Name_kw (ld_glob I hg F.mnm ?_ n1)
  have hev : PE X (.Name c.ev c.p6) (tVar c.i) := pe_var (by rw [hN]; exact F.ni) (by rw [hsc]; exact .inl F.le) v1 v2
  refine PySem.W.callWith_K (h₀ := X.base) I.ok.mod.kin F.nkeep (thn ((pa_cons hev pa_nil rfl).run c.p7 pins s σ H (fun vs H1 => vs = [.ref a] ∧ H1 = H) I ⟨.ref a, hs, rfl, rfl⟩) fun us s1 ⟨vs, H1, I1, r1, q1⟩ => ⟨I1.kIn, ?_⟩) rfl rfl
  obtain ⟨ev, eH⟩ := q1
  subst ev
  rw [eH] at I1
  obtain ⟨qn, fn⟩ := F.nfun
  have P1 := I1.pin (a, oe) (List.mem_append_left _ hpn)
  have hpin : PinOk X.stack H s1 (a, oe) := ⟨P1.1, P1.2.1, fun hm => (List.mem_cons.mp (I1.stkSub a hm)).elim P1.2.2.1 P1.2.2.2.1, P1.2.2.2.2⟩
  have hus : us.length = 1 := by rw [← r1.length]; rfl
  have hb := F.nbind s1 us I1.kIn (by rw [List.append_nil]; exact hus)
  rw [List.append_nil] at hb
  refine wpAny_call (codeAny_mono (run_hot (CX := C8.CX0) (E := C8.E0) (Q := Q) (p := (a, oe)) (k := k) fn F.nsc hr hpin I1.env0 hb r1 rfl fun cdv hr' => ?_) fun r s' hq => ?_)
  · have hmm : ∀ x v, X.mg x = some v → mgx X.mg a x = some v := fun x v e => by
      unfold mgx
      by_cases hx : x = "!"
      · rw [hx, nob] at e; cases e
      · rw [if_neg hx]; exact e
    have ea : mgx X.mg a "!" = some (.ref a) := if_pos rfl
    have hc : HC (cxH C8.CX0 X.prog X.w X.K X.mg X.base c.nN qn c.nsg c.ng cdv X.A X.stack s1 H C8.E0 (a, oe)) (mgx X.mg a) c.nN c.nsg c.nsg T E0 c.np xt := {
      fr := ⟨⟨(a, oe), hA, List.mem_singleton.mpr rfl⟩, F.nsc.nd, rfl, fun x h => ⟨(by
        show Loc c.nsg x
        unfold locB at h
        split at h
        · exact .inl (by assumption)
        · exact .inr (by assumption)
        · cases h), .inl rfl⟩⟩
      hsc := rfl
      blt := blt
      exi := fun cn b p q q2 pos hb hg1 hg2 => by
        obtain ⟨w1, w2, w3⟩ := nmB_of F.nnb
        obtain ⟨g1, g2⟩ := hx cn b hb
        have hv : ∀ i, c.nN[i]? = some c.np → PE (cxH C8.CX0 X.prog X.w X.K X.mg X.base c.nN qn c.nsg c.ng cdv X.A X.stack s1 H C8.E0 (a, oe)) (.Name c.np q) (tVar i) := fun i hi => pe_var hi (vis_of F.nva) w1 w2
        have cr := call_isY (X := cxH C8.CX0 X.prog X.w X.K X.mg X.base c.nN qn c.nsg c.ng cdv X.A X.stack s1 H C8.E0 (a, oe)) (List.mem_singleton.mpr rfl) eC hz.zc hf
        have go : ∀ (cv : V) (u : Value), (∀ w, RelV cv w → w = u) → PySem.W.kitOne X.K (.ref C) u = some b → PE (cxH C8.CX0 X.prog X.w X.K X.mg X.base c.nN qn c.nsg c.ng cdv X.A X.stack s1 H C8.E0 (a, oe)) (.Name cn q2) (tC cv) →
            PE (cxH C8.CX0 X.prog X.w X.K X.mg X.base c.nN qn c.nsg c.ng cdv X.A X.stack s1 H C8.E0 (a, oe)) (.Call (.Name "isinstance" p) [.Name c.np q, .Name cn q2] [] pos) (tX (mgx X.mg a) T E0 (exv c.nN c.np b)) := fun cv u ru hk hE => by
          cases hs : slot c.nN c.np with
          | none => exact pe_bad fun ρ st => by unfold exv; rw [hs]
          | some i =>
            refine PE.mono (pe_callB cr (gl_of hg2) (blt _ (by decide)) (by decide +kernel) (pa_cons (hv i (slot_at hs)) (pa_cons hE pa_nil rfl) rfl) (by decide) (by decide) rfl rfl) fun σ H Q w => ?_
            obtain ⟨m, ρ, st, R, w⟩ := w
            unfold exv at w
            rw [hs] at w
            dsimp only at w
            split at w
            · rename_i x e
              split at w
              · rename_i hx'
                subst hx'
                obtain ⟨v, h1, h2⟩ := R.re.at_ i _ e
                cases h2 with
                | gl e2 =>
                  rw [ea] at e2
                  cases e2
                  exact ⟨.ref a, h1, cv, u, b, rfl, ru, hk, w.now R.rs _ (.bl b)⟩
              · exact w.elim
            · exact w.elim
        rcases g2 with ⟨cv, m1, m2⟩ | ⟨tn, m1, m2, m3, m4⟩
        · exact go (.ref cv) (.ref cv) (fun w r => r) m2 (pe_glob (gl_of hg1) m1 rfl g1)
        · exact go (.ty tn) (.type tn) (fun w r => r) m4 (pe_bltn (gl_of hg1) m1 m3 rfl m2 g1) }
    have rv0 : RVs (mgx X.mg a) m H [.ref a] [dexc] := .cons (.gl ea) .nil
    refine ⟨_, snd_hs hc c.nn c.nbody F.nck, m, startR c.nN [dexc], st, ⟨R.mg_mono hmm, re_start rv0 c.nN⟩, ?_⟩
    rw [hex st]
    intro m' H' R' E' v rv
    cases rv
    exact q m' H' (R.mg_back hmm E' R') E'
  · cases r with
    | error e => exact False.elim hq
    | ok fl =>
      cases fl with
      | ret u => exact I1.after hq
      | next => exact False.elim hq
      | brk => exact False.elim hq
      | cont => exact False.elim hq
/-- the context of the catcher's body -/
abbrev xg (X : Cx) (c : Catcher) (qg : Str) (cdv : Value) (s : Shared) (H : Hp) : Cx := (cxOf C8.CX0 X.prog X.w X.K X.mg X.base c.Ng qg c.sg c.g cdv X.A X.stack s H C8.E0).nox
/-- f(lambda: body), f the catcher -/
theorem pe_catch {hnd : Str → Option D} {c : Catcher} {f : Str} {k : Nat} {E : XK} {scope : Scope} {body : Expr} {p lp pos : Pos} {r : Rho → Sto → Res D} (nob : X.mg "!" = none) (blt : ∀ x ∈ bnm, X.mg x = none) (F : HndF X.K X.mg hnd c f) (L : LamX.LamS X.env.scope scope) (lam : LamOk X T k) (hg : Gl X f) (hnm : nmB f = true)
    (hbody : ∀ (A : Around) (outer : List Env) (s : Shared) (H : Hp) (E' : XK) (f' c' : Addr), Room (k + 4) (A.deeper (LamX.lamEnv X scope s.heap.objs.size f' c')) → PE (lamCxN X A outer s H E' scope f' c') body (tX X.mg T E' r)) :
    PE X (.Call (.Name f p) [.Lambda ⟨[], [], none, [], [], none, []⟩ body scope lp] [] pos) (tX X.mg T E fun ρ st => match r ρ st with
      | .ok _ s1 => .ok (.str "") s1
      | .exc e s1 => .lift (hnd e) s1
      | .bad => .bad) := by
  refine ⟨fun pins s σ H Q I h => ?_⟩
  obtain ⟨m, ρ, st, R, w⟩ := h
  obtain ⟨n1, n2, n3⟩ := nmB_of hnm
  obtain ⟨a1, a2, a3⟩ := nmB_of F.nb.1
  obtain ⟨e1, e2, e3⟩ := nmB_of F.nb.2.1
  obtain ⟨cc, PP, hcode, TB, hmT, hu⟩ := lam.code
  obtain ⟨qg, fn⟩ := F.fun_
  obtain ⟨oc, od, dV, kV, doc, pm, an, cdv, ct, osl, efd, lk, hcd, _, _⟩ := fn.ex
  refine wpAny_Call_Name_kw (ld_glob I hg F.at_ ?_ n1)
  refine PySem.W.callWith_K (h₀ := X.base) I.ok.mod.kin F.keep ?_ (by rfl) (by rfl)
  show wpAny _ _ (spliced ((false, eval (.Lambda ⟨[], [], none, [], [], none, []⟩ body scope lp) X.env) :: backTo pos (starEach [] X.env))) _ _ s
  refine Calls.spliced_cons (LamX.lam_make2 I TB hcode hmT hu R.rs.tabs rfl (L.has I.ok) fun f' c' pm' ctv H1 s' I1 eN T1 hf hfn hfr hco => ?_)
  refine Calls.spliced_nil ⟨I1.kIn, ?_⟩
  obtain ⟨R1, X1⟩ := R.rs.extN eN T1
  have hb := F.bind s' [.ref f'] I1.kIn rfl
  rw [efd] at hb lk
  have rc : codeAny (model X.prog X.w) X.A (.call (.ref c.g) ⟨[.ref f'], []⟩) (CR C8.CX0 X.stack X.prog X.w H1 s' Q C8.E0) s' := by
    refine LamX.run_ofS (k := k + 5) (N := c.Ng) (ps := [c.a]) (us := [.ref f']) (vs := [.ref f']) lk hcd F.sc lam.room I1.env0 hb (.cons rfl .nil) rfl fun hr' => ?_
    have i0 : ∀ f : Addr, (L2.start c.Ng [V.ref f])[0]? = some (some (V.ref f)) := fun f => rfl
    have tk0 : L2N.Takes (xg X c qg cdv s' H1) (fun _ _ _ _ => False) := fun u s' ⟨_, _, _, _, _, _, _, _, _, _, _, _, _, _, _, _, z⟩ => z.elim
    have hgl : ∀ {x}, glB c.sg x = true → Gl (xg X c qg cdv s' H1) x := fun h => gl_of h
    have hTry := L2N.ps_try_as (X := (xg X c qg cdv s' H1)) (x := c.we) (n := c.ev) (c := .ref c.CS) (i := c.i) (np := c.p4) (pos := c.p10) (pos' := c.p9) (b₀ := .Return (some (.Call (.Name c.nm c.p5) [.Name c.ev c.p6] [] c.p7)) c.p8) (suite := [])
      (body := [.Expr (.Call (.Name c.a c.p1) [] [] c.p2) c.p3])
      (tb := fun W D σg H => ∃ E' : XK, (∀ cls d σ' H', E' cls d H' → W cls d σ' H') ∧ σg[0]? = some (some (.ref f')) ∧ H c' = some (LamX.CodeO c' (X.env.qual ++ "<lambda>")) ∧ tX X.mg T E' r σ H fun _ H' => D.nx σg H')
      (ts := fun a cls d D σg H => (c.i < σg.length → σg[c.i]? = some (some (.ref a))) ∧ NmOk X.K X.mg T c cls d H D.rt) rfl rfl F.sc.nd F.ni F.le ⟨hgl F.gwe, e1, .inl F.mwe⟩ tk0
      (fun W pn xe tk _ => ⟨fun pins2 s2 σ2 H2 D2 I2 h2 => by
        obtain ⟨E', hW, h1, h2, h3⟩ := h2
        have hp := pe_actN (xe0 := fun _ _ => False) (p1 := c.p1) (p2 := c.p2) I1 L hf hfn hfr rfl tk hW hr' (fun A outer s H hr2 => hbody A outer s H E' f' c' hr2) F.n0 (vis_of F.va) a1 a2
        exact (pss_one (ps_expr (pos := c.p3) hp rfl)).run pins2 s2 σ2 H2 D2 I2 ⟨h1, h2, h3⟩⟩)
      (fun a oe cls d pn hz hfld => ⟨fun pins2 s2 σ2 H2 D2 I2 h2 => by
        obtain ⟨h1, h2⟩ := h2
        have hi : c.i < σ2.length := by
          have := (List.getElem?_eq_some_iff.mp F.ni).1
          rw [I2.len]; exact this
        obtain ⟨vs, hvs⟩ := hfld
        have hA : Hot1 ((xg X c qg cdv s' H1).suite a ((a, oe) :: pn)).A (a, oe) := ⟨rfl, vs, hvs, hz.2.2 vs hvs⟩
        have hrH : RoomH (0 + 1) ((xg X c qg cdv s' H1).suite a ((a, oe) :: pn)).A := by
          have h1 : RoomH 1 (X.A.deeper (envOfC qg c.sg s'.heap.objs.size c.g cdv)) := roomH_of (hr'.mono (by omega))
          exact ⟨h1.dp, h1.un⟩
        exact (pss_one (ps_ret (pos := c.p8) (pe_names (X := (xg X c qg cdv s' H1).suite a ((a, oe) :: pn)) (k := 0) (T := T) nob F blt hA (List.mem_cons_self ..) hz ⟨vs, hvs⟩ hrH rfl rfl))).run pins2 s2 σ2 H2 D2 I2 ⟨h1 hi, h2⟩⟩)
    refine ⟨_, PSs.nox (pss_cons hTry (pss_one (ps_ret (pos := c.p12) (pe_str (x := "") (j := c.j) (pos := c.p11))))), ?_⟩
    refine ⟨fun cls d H' => PySem.W.exmOne X.K cls (.ref c.CS) = some true ∧ NmOk X.K X.mg T c cls d H' Q, fun cls d σ' H' ⟨g1, g2⟩ => ⟨true, g1, fun _ a ha => ⟨fun hl => ?_, g2⟩, fun z => nomatch z⟩, i0 f', hco, m, ρ, st, ⟨R1, R.re.ext X1⟩, ?_⟩
    · rw [List.getElem?_set_self (by rw [List.length_set] at hl; exact hl)]
    · cases er : r ρ st with
      | bad => dsimp only at w; rw [er] at w; exact w.elim
      | ok d s1 =>
        dsimp only at w
        rw [er] at w
        exact fun m' H' R' E' v rv => w m' H' R' (X1.trans E') _ (.str _)
      | exc e s1 =>
        dsimp only at w
        rw [er] at w
        obtain ⟨d, hd, w⟩ := w.lift
        obtain ⟨ne, C, txt, xt, m1, rfl, m2, m3, m4, m5⟩ := F.cls e d hd
        intro m' H' x od o R' E' hx
        rw [m1] at hx
        cases hx
        have ho : od = none := o.elim (fun z => absurd z ne) id
        exact ⟨m2, C, txt, xt, m', s1, rfl, ho, m3, m4, m5, R', fun m2 H2 R2 E2 => w m2 H2 R2 ((X1.trans E').trans E2) _ (.str _)⟩
  refine wpAny_call (codeAny_mono rc fun r s2 hq => ?_)
  cases r with
  | error e => exact (show False from hq).elim
  | ok fl =>
    cases fl with
    | ret u => exact I1.after hq
    | next => exact False.elim hq
    | brk => exact False.elim hq
    | cont => exact False.elim hq
end
end MP
set_option Elab.async false
set_option linter.all false
set_option maxRecDepth 100000
set_option maxHeartbeats 1000000
namespace MP
open PySem PySem.Spec PyProof.Rows L2 LamX
section
variable {X : Cx} {T : List (Addr × Str)} {E : XK} {G : Glb} {N : List Str} {sc lsc : Scope} {k : Nat}
theorem snd_q {n : Nat} (S : ∀ m, m ≤ n → Snd G N T m) (e : Expr) (c : Cn X N sc lsc G T k E) (h : ckQ G N n sc e = true) : PT X e (tT X.mg T E (evalT G N n e)) := by
  cases n with
  | zero => exact pt_bad fun _ _ => rfl
  | succ m =>
    have h' : (tstB e && ckE G N m sc e) = true := h
    rw [Bool.and_eq_true] at h'
    exact (S m (Nat.le_succ m)).t e c h'.2 h'.1
theorem pts_nilT {X : Cx} {mg : MG} {T : List (Addr × Str)} {E : XK} {G : Glb} {N : List Str} {n : Nat} (hn : n ≠ 0) : PTs X [] (tT mg T E (evalIf G N n [])) := by
  cases n with
  | zero => exact (hn rfl).elim
  | succ m => exact ⟨fun pins s σ H Q I w => by
      obtain ⟨m, ρ, st, R, w⟩ := w
      exact pts_nil.run pins s σ H Q I (w.now R.rs)⟩
theorem snd_if {n : Nat} (S : ∀ m, m ≤ n → Snd G N T m) (es : List Expr) (c : Cn X N sc lsc G T k E) (h : ckIf G N n sc es = true) : PTs X es (tT X.mg T E (evalIf G N n es)) := by
  cases n with
  | zero => exact ⟨fun pins s σ H Q I w => by
      obtain ⟨m, ρ, st, R, w⟩ := w
      exact w.elim⟩
  | succ m => match es, h with
    | [], _ => exact ⟨fun pins s σ H Q I w => by
        obtain ⟨m, ρ, st, R, w⟩ := w
        exact pts_nil.run pins s σ H Q I (w.now R.rs)⟩
    | [e], h => exact pts_one (snd_q (fun j hj => S j (Nat.le_succ_of_le hj)) e c h)
    | _ :: _ :: _, h => cases h
theorem bi_bad {f : Str} {ds : List D} (h : ∀ x ∈ bfs ++ bts, f ≠ x.1) : True := trivial
theorem snd_bi {n : Nat} (S : Snd G N T n) (c : Cn X N sc lsc G T k E) {f : Str} {p pos : Pos} {args : List Expr} (hnm : nmB f = true) (hgl : glB sc f = true) (hf : (decide (f ∈ bfs.map (·.1)) || decide (f ∈ bts.map (·.1))) = true) (hne : (!args.isEmpty) = true) (hst : args.all noStar = true) (ha : ckL G N n sc args = true) :
    PE X (.Call (.Name f p) args [] pos) (tX X.mg T E fun ρ st => (evalL G N n args ρ st).bind fun ds s1 => .lift (bi f ds) s1) := by
  obtain ⟨n1, n2, n3⟩ := nmB_of hnm
  have blt : ∀ x ∈ bnm, X.mg x = none := c.gf.blt
  cases args with
  | nil => cases hne
  | cons a args =>
    have hA := S.l _ c ha
    have hg := c.fr.gl hgl
    rw [Bool.or_eq_true, decide_eq_true_eq, decide_eq_true_eq] at hf
    rcases hf with hf | hf
    · have hf' : f = "len" ∨ f = "any" ∨ f = "all" ∨ f = "sum" ∨ f = "min" ∨ f = "max" := by simpa [bfs] using hf
      rcases hf' with rfl | rfl | rfl | rfl | rfl | rfl
      · exact pe_cb cb_len hg (blt _ (by decide)) (by decide +kernel) n3 n1 hst hA
      · exact pe_cb (cb_any c.fr.calm) hg (blt _ (by decide)) (by decide +kernel) n3 n1 hst hA
      · exact pe_cb (cb_all c.fr.calm) hg (blt _ (by decide)) (by decide +kernel) n3 n1 hst hA
      · exact pe_cb (cb_sum c.fr.calm) hg (blt _ (by decide)) (by decide +kernel) n3 n1 hst hA
      · exact pe_cb (cb_min c.fr.calm c.fr.units) hg (blt _ (by decide)) (by decide +kernel) n3 n1 hst hA
      · exact pe_cb (cb_max c.fr.calm c.fr.units) hg (blt _ (by decide)) (by decide +kernel) n3 n1 hst hA
    · have hf' : f = "tuple" ∨ f = "list" ∨ f = "int" ∨ f = "str" := by simpa [bts] using hf
      rcases hf' with rfl | rfl | rfl | rfl
      · exact pe_ct cb_tuple hg (blt _ (by decide)) (by decide +kernel) n3 n1 hst hA
      · exact pe_ct (cb_list c.fr.calm) hg (blt _ (by decide)) (by decide +kernel) n3 n1 hst hA
      · exact pe_ct cb_int hg (blt _ (by decide)) (by decide +kernel) n3 n1 hst hA
      · exact pe_ct cb_str hg (blt _ (by decide)) (by decide +kernel) n3 n1 hst hA
theorem snd_m {n : Nat} (S : Snd G N T n) (c : Cn X N sc lsc G T k E) {o a : Expr} {m : Str} {apos pos : Pos} (hp : plainO o = true) (hm : m ∈ mts) (hl : apos.endLine = pos.line) (ho : ckE G N n sc o = true) (hs : noStar a = true) (ha : ckL G N n sc [a] = true) :
    PE X (.Call (.Attribute o m apos) [a] [] pos) (tX X.mg T E fun ρ st => (evalE G N n o ρ st).bind fun x s1 => match rcv m x s1 with
      | false => .bad
      | true => (evalL G N n [a] ρ s1).bind fun ds s2 =>
        if m = "append" then (match ds with
          | [v] => (match appItem x v s2 with
            | some s3 => .ok .none s3
            | none => .bad)
          | _ => .bad)
        else .lift (meth m (cntS m x s2) ds) s2) := by
  have hO := S.e o c ho
  have hA := S.l _ c ha
  have hline : (apos.endLine == pos.line) = true := by rw [hl]; exact beq_self_eq_true _
  by_cases h1 : m = "append"
  · subst h1
    refine PE.mono (pe_bm F.plainAttrs_list F.slot_list_append F.type_list_append (mb_append (mg := X.mg) (T := T)) hO hA (base_of hp) (few_of hs) hline (star_cons hs) rfl) fun σ H Q h => ?_
    obtain ⟨m, ρ, st, R, w⟩ := h
    refine ⟨m, ρ, st, R, w.bind.imp fun x m1 s1 H1 R1 E1 w1 v rv => ?_⟩
    split at w1
    · exact w1.elim
    · rename_i hr
      refine ⟨(rcv_ty R1 rv hr).1 (.inl rfl), m1, ρ, s1, R.ext R1 E1, w1.bind.imp fun ds m2 s2 H2 R2 E2 w2 vs rvs => ?_⟩
      rw [if_pos rfl] at w2
      split at w2
      · split at w2
        · rename_i s3 e
          exact ⟨m2, s2, x, _, s3, rvs.length, R2, rv.ext E2, rvs, e, fun H' R' E' => w2 m2 H' R' E' _ .non⟩
        · exact w2.elim
      · exact w2.elim
  · have go : ∀ {id T' : String}, PlainAttrs T' → Slot T' m id → typeOf (.builtin id) = pure (.type "method_descriptor") → MtR X id (rMt X.mg T m) → (∀ {x : D} {v : V} {m1 : MA} {s1 : Sto} {H1 : Hp}, RS X.mg T m1 s1 H1 → RV X.mg m1 H1 v x → rcv m x s1 = true → tyV X.K T' v H1) →
        PE X (.Call (.Attribute o m apos) [a] [] pos) (tX X.mg T E fun ρ st => (evalE G N n o ρ st).bind fun x s1 => match rcv m x s1 with
          | false => .bad
          | true => (evalL G N n [a] ρ s1).bind fun ds s2 =>
            if m = "append" then (match ds with
              | [v] => (match appItem x v s2 with
                | some s3 => .ok .none s3
                | none => .bad)
              | _ => .bad)
            else .lift (meth m (cntS m x s2) ds) s2) := by
      intro id T' pa sl ty hm tyx
      refine PE.mono (pe_bm pa sl ty hm hO hA (base_of hp) (few_of hs) hline (star_cons hs) rfl) fun σ H Q h => ?_
      obtain ⟨m, ρ, st, R, w⟩ := h
      refine ⟨m, ρ, st, R, w.bind.imp fun x m1 s1 H1 R1 E1 w1 v rv => ?_⟩
      split at w1
      · exact w1.elim
      · rename_i hr
        refine ⟨tyx R1 rv hr, m1, ρ, s1, R.ext R1 E1, w1.bind.imp fun ds m2 s2 H2 R2 E2 w2 vs rvs => ?_⟩
        rw [if_neg h1] at w2
        obtain ⟨d, e, w2⟩ := w2.lift
        exact ⟨m2, s2, x, ds, d, R2, rv.ext E2, rvs, e, giv_of w2⟩
    by_cases h2 : m = "count"
    · subst h2
      exact go F.plainAttrs_list F.slot_list_count F.type_list_count mb_count fun R rv hr => (rcv_ty R rv hr).1 (.inr rfl)
    · by_cases h3 : m = "split"
      · subst h3
        exact go F.plainAttrs_str F.slot_str_split F.type_str_split mb_split fun R rv hr => (rcv_ty R rv hr).2 h1 h2
      · by_cases h4 : m = "join"
        · subst h4
          exact go F.plainAttrs_str F.slot_str_join F.type_str_join mb_join fun R rv hr => (rcv_ty R rv hr).2 h1 h2
        · exfalso
          have : m = "append" ∨ m = "count" ∨ m = "split" ∨ m = "join" := by simpa [mts] using hm
          rcases this with z | z | z | z
          · exact h1 z
          · exact h2 z
          · exact h3 z
          · exact h4 z
theorem GF.noH {P : Program} {w : World} {K : PySem.W.Frag} {mg : MG} {base : Heap} (g : GF P w K mg base G T k) : GF P w K mg base G.noH T k := ⟨g.dfn, g.cst, g.blt, g.nob, (fun _ h => nomatch h), g.exc, g.xr, g.isc, g.atr⟩
/-- a call of a name of the frame that holds a def -/
theorem snd_loc {n : Nat} (S : Snd G N T n) (c : Cn X N sc lsc G T k E) {f : Str} {p pos : Pos} {args : List Expr} {i : Nat} (h3 : slot N f = some i) (hn : nmB f = true) (hv : visB sc f = true) (hne : (!args.isEmpty) = true) (hs : args.all noStar = true) (ha : ckL G N n sc args = true) :
    PE X (.Call (.Name f p) args [] pos) (tX X.mg T E fun ρ st => match ρ[i]? with
      | some (some (.dict [(.str g, .none)])) => if G.isDef g then (evalL G N n args ρ st).bind fun ds s1 => G.call g ds s1 else .bad
      | _ => .bad) := by
  cases args with
  | nil => cases hne
  | cons e es =>
    obtain ⟨n1, n2, n3⟩ := nmB_of hn
    have hA := S.l _ c ha
    have hs2 := hs
    simp only [List.all_cons, Bool.and_eq_true] at hs2
    refine ⟨fun pins s σ H Q I h => ?_⟩
    obtain ⟨m, ρ, st, R, w⟩ := h
    dsimp only at w
    split at w
    · rename_i g hg
      split at w
      · rename_i hd
        obtain ⟨v, h1, h2⟩ := R.re.at_ i _ hg
        obtain ⟨fa, fd, ps, e1, e2, e3, e4, e5⟩ := c.gf.dfn g hd
        cases h2 with
        | gl hm =>
          rw [e1] at hm
          cases hm
          have hx : Passes (L2N.CX X.prog X.w) X E := L2N.passes_call c.tk fun _ _ _ _ h => h
          refine (pe_callL (i := i) (f := fa) (sp := spI X.mg T (G.call g) ps.length) (dvs := []) e5 c.room (by rw [c.fr.hN]; exact slot_at h3) (c.fr.vis hv) e2 e3 .nil hx hA n1 n2 (star_cons hs2.1) (star_any hs2.2)).run pins s σ H Q I ⟨h1, ?_⟩
          refine ⟨m, ρ, st, R, w.bind.imp fun ds m1 s1 H1 R1 E1 w1 vs rvs => ?_⟩
          show spI X.mg T (G.call g) ps.length (vs ++ []) H1 Q E
          rw [List.append_nil]
          refine ⟨?_, m1, ds, s1, R1, rvs, w1⟩
          rw [rvs.length]
          by_cases hl : ds.length = ps.length
          · exact hl
          · rw [e4 ds s1 hl] at w1
            exact w1.elim
      · exact w.elim
    · exact w.elim
/-- the step of a comprehension that may raise -/
theorem pe_rz {n : Nat} {s : Shared} {H : Hp} {scope : Scope} {Ca : Addr} {cl : List (Str × Addr)} {fp : List Addr} {Qz : Value → Shared → Prop} {ifs : List Expr} {elt : Expr} (c : Cn X N sc lsc G T k E) (hz : rzC G N elt ifs scope = true) (h : ckE G N n (relS scope sc) elt = true)
    (tkb : L2N.Takes (blkX X s H scope (compEnvC scope cl Ca X.env) fp Qz) (fun c d _ H => E c d H)) :
    PE (blkX X s H scope (compEnvC scope cl Ca X.env) fp Qz) elt (tX X.mg T E (evalE G N n elt)) := by
  obtain ⟨f, p, x, q, cp, i, rfl, rfl, hd, hh, hf, hx⟩ := rzC_elt hz
  have F : Fr (blkX X s H scope (compEnvC scope cl Ca X.env) fp Qz) N (relS scope sc) scope := Fr.wish c.blk.fr
  match n, h with
  | 0, _ => exact pe_bad fun _ _ => rfl
  | 1, _ =>
    exact pe_bad fun ρ st => by
      simp only [evalE, hf, hh, hd, evalL]
      rfl
  | 2, _ =>
    exact pe_bad fun ρ st => by
      simp only [evalE, hf, hh, hd, evalL]
      rfl
  | n + 3, h =>
    simp only [ckE, ckL, hf, hh, hd, hx, Bool.and_eq_true, Bool.and_true, decide_true, if_true, Bool.false_eq_true, if_false] at h
    obtain ⟨h1, ⟨h2, h3⟩, h4, h5, h6⟩ := h
    obtain ⟨n1, n2, n3⟩ := nmB_of h1
    obtain ⟨m1, m2, m3⟩ := nmB_of h5
    obtain ⟨fa, fd, ps, e1, e2, e3, e4, e5⟩ := c.gf.dfn f hd
    have ee : evalE G N (n + 3) (.Call (.Name f p) [.Name x q] [] cp) = fun ρ st => ((match ρ[i]? with | some (some d) => frozen G q d st | _ => .bad : Res D).bind fun d s1 => (Res.ok [] s1).bind fun ds s2 => .ok (d :: ds) s2).bind fun ds s1 => G.call f ds s1 := by
      funext ρ st
      simp only [evalE, evalL, hf, hh, hd, hx]
      rfl
    rw [ee]
    refine pe_def e5 c.room (F.gl h2) e1 e2 e3 tkb n1 e4 rfl (pa_cons1 rfl (PE.mono (pe_var (by rw [F.hN]; exact slot_at hx) (F.vis h6) m1 m2) fun σ H Q w => tx_var w) pa_nil1) fun z => nomatch z
theorem snd_e {n : Nat} (S : ∀ m, m ≤ n → Snd G N T m) (SH : (∃ f, G.isHnd f = true) → Snd G.noH N T n) (e : Expr) (c : Cn X N sc lsc G T k E) (h : ckE G N (n + 1) sc e = true) : PE X e (tX X.mg T E (evalE G N (n + 1) e)) := by
  have S0 := S n (Nat.le_refl n)
  have hu := c.fr.units
  unfold ckE at h
  split at h
  · rename_i x pos
    rw [Bool.and_eq_true] at h
    obtain ⟨n1, n2, n3⟩ := nmB_of h.1
    cases hs : slot N x with
    | some i =>
      rw [hs] at h
      have ee : evalE G N (n + 1) (.Name x pos) = fun ρ st => match ρ[i]? with | some (some d) => frozen G pos d st | _ => .bad := by
        funext ρ st
        first
          | (simp only [evalE, hs]; done)
          | (simp only [evalE, hs]; rfl)
      rw [ee]
      exact PE.mono (pe_var (by rw [c.fr.hN]; exact slot_at hs) (c.fr.vis h.2) n1 n2) fun σ H Q w => tx_var w
    | none =>
      rw [hs] at h
      have hg := c.fr.gl h.2
      cases hc : G.cst x with
      | some d =>
        obtain ⟨v, u, m1, m2, m3⟩ := c.gf.cst x d hc
        have ee : evalE G N (n + 1) (.Name x pos) = fun ρ st => .ok d st := by
          funext ρ st
          simp only [evalE, hs, hc]
        rw [ee]
        exact PE.mono (pe_glob hg m1 m2 n1) fun σ H Q ⟨m, ρ, st, R, w⟩ => w.now R.rs v (m3 m H)
      | none =>
        cases hd : G.isDef x with
        | false => exact pe_bad fun ρ st => by simp only [evalE, hs, hc, hd]; rfl
        | true =>
          obtain ⟨f, fd, ps, m1, m2, m3, m4, m5⟩ := c.gf.dfn x hd
          have ee : evalE G N (n + 1) (.Name x pos) = fun ρ st => .ok (dgl x) st := by
            funext ρ st
            simp only [evalE, hs, hc, hd]
            rfl
          rw [ee]
          exact PE.mono (pe_glob (v := .ref f) hg m1 rfl n1) fun σ H Q ⟨m, ρ, st, R, w⟩ => w.now R.rs _ (.gl m1)
  · exact pe_cst
  · rw [Bool.and_eq_true, decide_eq_true_eq] at h
    exact pe_tup1 (Nat.le_trans h.1 (by decide)) (S0.l _ c h.2) fun ρ st ds s e => evalL_len e
  · rw [Bool.and_eq_true, decide_eq_true_eq] at h
    exact pe_lst1 (Nat.le_trans h.1 (by decide)) (S0.l _ c h.2) fun ρ st ds s e => evalL_len e
  · rw [Bool.and_eq_true] at h
    exact pe_bin (S0.e _ c h.1) (S0.e _ c h.2)
  · rename_i op a pos
    cases op with
    | Not => exact pe_not1 (S0.e _ c h)
    | USub => exact pe_neg1 (S0.e _ c h)
    | _ => exact pe_bad fun ρ st => rfl
  · exact (S0.b _ _ _ c h).1
  · simp only [Bool.and_eq_true, Bool.not_eq_true'] at h
    exact pe_cmp1 hu h.2 (S0.e _ c h.1.1) (S0.e _ c h.1.2)
  · simp only [Bool.and_eq_true, Bool.not_eq_true'] at h
    exact pe_cmp2 hu h.2 (S0.e _ c h.1.1.1) (S0.e _ c h.1.1.2) (S0.e _ c h.1.2)
  · simp only [Bool.and_eq_true] at h
    exact pe_if1 (snd_q S _ c h.1.1) (S0.e _ c h.1.2) (S0.e _ c h.2)
  · simp only [Bool.and_eq_true] at h
    exact pe_cut1 (S0.e _ c h.1.1) (S0.o _ c h.1.2) (S0.o _ c h.2)
  · exact pe_rev1 (S0.e _ c h)
  · cases h
  · rename_i o i pos n1 n2 n3
    rw [Bool.and_eq_true] at h
    have hx : PlainIx i := plainIx_of fun a b p z => n1 _ _ _ z
    have ee : evalE G N (n + 1) (.Subscript o i pos) = fun ρ st => (evalE G N n o ρ st).bind fun x s1 => (evalE G N n i ρ s1).bind fun y s2 => .lift (item x y s2) s2 := by
      cases i with
      | Slice a b s p => cases s with
        | none => exact (n1 _ _ _ rfl).elim
        | some s => exact (n3 _ _ _ _ rfl).elim
      | _ => rfl
    rw [ee]
    exact pe_ix1 hx (S0.e _ c h.1) (S0.e _ c h.2)
  · rename_i elt tg it ifs scope pos
    simp only [Bool.and_eq_true, List.all_eq_true, decide_eq_true_eq] at h
    obtain ⟨⟨⟨⟨⟨h1, h2⟩, h3⟩, h4⟩, h5⟩, h6⟩ := h
    obtain ⟨i1, i2⟩ := S0.i tg it c h4
    have ok : BlkOk X.N X.env.scope scope (ownSl N scope) := by
      rw [c.fr.hN, c.fr.hsc]
      exact blkOk_by h1
    by_cases hn0 : n = 0
    · subst hn0
      exact pe_bad fun _ _ => rfl
    have i2 := i2 hn0
    have ww : ∀ {σ H Q}, tX X.mg T E (evalE G N (n + 1) (.ListComp elt [⟨tg, it, ifs, 0⟩] scope pos)) σ H Q → tX X.mg T E (fun ρ st => (evalI G N n it ρ st).bind fun xs s1 => (compZ (rzC G N elt ifs scope) xs (compF N ((ownSl N scope).map (·.2)) tg (evalIf G N n ifs) (evalE G N n elt) ρ) s1).bind fun ds s4 => .ok (.list ds) s4) σ H Q := fun w => w
    cases hz : rzC G N elt ifs scope with
    | false =>
      rw [hz] at ww
      refine PE.mono (pe_lc (g := gTp X.mg (fun _ => True) N tg) (tt := tT X.mg T E0 (evalIf G N n ifs)) (te := tX X.mg T E0 (evalE G N n elt)) c.fr.calm (by rw [c.fr.hN]; exact c.fr.nd) i1 ok (fun s H C cl fp => PG.mono (pg_t c.blk.fr h2) fun v σ H Q ⟨m, ρ, d, ρ1, a, b, _, c, e⟩ => ⟨m, ρ, d, ρ1, a, b, c, e⟩) (fun s H C cl fp => snd_if S ifs c.blk h5) (fun s H C cl fp => S0.e elt c.blk h6) (fun x => i2 _ x)) fun σ H Q w => ?_
      exact tlc_of (fun _ => True) (fun _ _ _ _ _ _ _ => trivial) h3 (ww w)
    | true =>
      rw [hz] at ww
      rcases c.stk with ⟨k1, k2⟩ | k
      · have hnf : ∀ x ∈ scope.names, x.2 ≠ .free := rzC_free hz
        refine PE.mono (pe_lcx (g := gTp X.mg (fun _ => True) N tg) (tt := tT X.mg T E (evalIf G N n ifs)) (te := tX X.mg T E (evalE G N n elt)) c.fr.calm (by rw [c.fr.hN]; exact c.fr.nd) k1 k2 c.tk i1 ok hnf (fun s H C cl fp Qz _ => PG.mono (pg_t (Fr.wish c.blk.fr) h2) fun v σ H Q ⟨m, ρ, d, ρ1, a, b, _, c, e⟩ => ⟨m, ρ, d, ρ1, a, b, c, e⟩) (fun s H C cl fp Qz _ => ?_) (fun s H C cl fp Qz tkb => ?_) (fun x => i2 _ x)) fun σ H Q w => tlc_ofX (fun _ => True) (fun _ _ _ _ _ _ _ => trivial) h3 (ww w)
        · obtain ⟨_, _, _, _, _, _, _, hi, _⟩ := rzC_elt hz
          subst hi
          exact pts_nilT (by omega)
        · exact pe_rz c hz h6 tkb
      · refine PE.mono (pe_lc (g := gTp X.mg (fun _ => True) N tg) (tt := tT X.mg T E (evalIf G N n ifs)) (te := tX X.mg T E (evalE G N n elt)) c.fr.calm (by rw [c.fr.hN]; exact c.fr.nd) i1 ok (fun s H C cl fp => PG.mono (pg_t c.blk.fr h2) fun v σ H Q ⟨m, ρ, d, ρ1, a, b, _, c, e⟩ => ⟨m, ρ, d, ρ1, a, b, c, e⟩) (fun s H C cl fp => ⟨fun pins s σ H Q I w => (snd_if S ifs c.blk h5).run pins s σ H Q I (by obtain ⟨m, ρ, st, R, w⟩ := w; exact ⟨m, ρ, st, R, w.impE k⟩)⟩) (fun s H C cl fp => PE.mono (S0.e elt c.blk h6) fun σ H Q ⟨m, ρ, st, R, w⟩ => ⟨m, ρ, st, R, w.impE k⟩) (fun x => i2 _ x)) fun σ H Q w => tlc_ofX (fun _ => True) (fun _ _ _ _ _ _ _ => trivial) h3 (ww w)
  · rename_i f p args pos
    rw [Bool.and_eq_true] at h
    obtain ⟨h1, h⟩ := h
    cases h3 : slot N f with
    | some i =>
      rw [h3] at h
      simp only [Bool.and_eq_true] at h
      obtain ⟨⟨⟨h2, h4⟩, h5⟩, h6⟩ := h
      have ee : evalE G N (n + 1) (.Call (.Name f p) args [] pos) = fun ρ st => match ρ[i]? with
          | some (some (.dict [(.str g, .none)])) => if G.isDef g then (evalL G N n args ρ st).bind fun ds s1 => G.call g ds s1 else .bad
          | _ => .bad := by
        funext ρ st
        simp only [evalE, h3]
        all_goals rfl
      rw [ee]
      exact snd_loc S0 c h3 h1 h2 h4 h5 h6
    | none =>
    rw [h3] at h
    simp only [Bool.and_eq_true, decide_eq_true_eq] at h
    obtain ⟨⟨h2, h5⟩, h6⟩ := h
    obtain ⟨n1, n2, n3⟩ := nmB_of h1
    cases h4 : G.isHnd f with
    | true =>
      rw [h4, if_pos rfl] at h6
      split at h6
      · rename_i body scope lp
        rw [Bool.and_eq_true] at h6
        obtain ⟨cc, HF⟩ := c.gf.hnd f h4
        have L : LamX.LamS X.env.scope scope := by
          rw [c.fr.hsc]
          exact LamX.lamS_by h6.1
        have lm := c.lam f h4
        have ee : evalE G N (n + 1) (.Call (.Name f p) [.Lambda ⟨[], [], none, [], [], none, []⟩ body scope lp] [] pos) = fun ρ st => match evalE G.noH N n body ρ st with
            | .ok _ s1 => .ok (.str "") s1
            | .exc e s1 => .lift (G.hnd e) s1
            | .bad => .bad := by
          funext ρ st
          simp only [evalE, h3, h4]
          all_goals rfl
        rw [ee]
        refine pe_catch c.gf.nob c.gf.blt HF L lm (c.fr.gl h2) h1 fun A outer s H E' f' c' hr => ?_
        have cl : Cn (lamCxN X A outer s H E' scope f' c') N scope scope G.noH T k E' := {
          fr := ⟨rfl, c.fr.nd, c.fr.hN, rfl, fun x hx => (by
            exfalso
            unfold locB at hx
            split at hx
            · rename_i e
              exact (L.own _ (PySem.mem_of_lookup e)).1 rfl
            · rename_i e
              exact (L.own _ (PySem.mem_of_lookup e)).2 rfl
            · cases hx), hr.units⟩
          tk := L2N.takes_of rfl rfl rfl rfl
          stk := .inl ⟨rfl, rfl⟩
          room := hr.mono (by omega)
          room2 := hr.mono (by omega)
          gf := c.gf.noH
          lam := fun f hf => nomatch hf }
        exact (SH ⟨f, h4⟩).e body cl h6.2
      · cases h6
    | false =>
    rw [h4] at h6
    simp only [Bool.false_eq_true, if_false] at h6
    cases hd : G.isDef f with
    | true =>
      rw [hd, if_pos rfl] at h6
      by_cases hn0 : n = 0
      · subst hn0
        exact pe_bad fun ρ st => by
          simp only [evalE, h3, h4, hd]
          rfl
      have ee : evalE G N (n + 1) (.Call (.Name f p) args [] pos) = fun ρ st => (evalL G N n args ρ st).bind fun ds s1 => G.call f ds s1 := by
        funext ρ st
        simp only [evalE, h3, h4, hd]
        rfl
      rw [ee]
      obtain ⟨fa, fd, ps, m1, m2, m3, m4, m5⟩ := c.gf.dfn f hd
      exact pe_def m5 c.room (c.fr.gl h2) m1 m2 m3 c.tk n1 m4 h5 (S0.l _ c h6) fun z ρ st => by
        subst z
        cases n with
        | zero => exact (hn0 rfl).elim
        | succ n => rfl
    | false =>
      rw [hd] at h6
      simp only [Bool.false_eq_true, if_false] at h6
      cases hX : G.isX f with
      | true =>
      rw [hX, if_pos rfl, Bool.and_eq_true] at h6
      obtain ⟨a0, as, rfl⟩ : ∃ a0 as, args = a0 :: as := by
        cases args with
        | nil => exact absurd h6.1 (by decide)
        | cons a b => exact ⟨a, b, rfl⟩
      have ee : evalE G N (n + 1) (.Call (.Name f p) (a0 :: as) [] pos) = fun ρ st => (evalL G N n (a0 :: as) ρ st).bind fun ds s1 => .lift (G.xap f ds) s1 := by
        funext ρ st
        simp only [evalE, h3, h4, hd, hX]
        rfl
      rw [ee]
      exact c.gf.xr f hX X E a0 as _ p pos rfl rfl rfl rfl rfl c.tk c.room2 c.fr.calm hu (c.fr.gl h2) n1 h5 (S0.l _ c h6.2)
      | false =>
      rw [hX] at h6
      simp only [Bool.false_eq_true, if_false] at h6
      split at h6
      · rename_i hf
        subst hf
        split at h6
        · rename_i a t q
          simp only [Bool.and_eq_true, Bool.or_eq_true, decide_eq_true_eq] at h6
          cases hC : G.isCls t with
          | true =>
          have ee : evalE G N (n + 1) (.Call (.Name "isinstance" p) [a, .Name t q] [] pos) = fun ρ st => (evalE G N n a ρ st).bind fun x s1 => .lift ((isEx G.isub t x).map .bool) s1 := by
            funext ρ st
            simp only [evalE, h3, h4, hd, hX, hC]
            rfl
          rw [ee]
          exact pe_isx (c.gf.isc t hC) (c.fr.gl h2) (c.gf.blt _ (by decide)) (c.fr.gl h6.1.1.2) h6.1.1.1 (S0.e a c h6.2)
          | false =>
          have h67 := h6.1.2.resolve_left (by rw [hC]; exact Bool.noConfusion)
          have ee : evalE G N (n + 1) (.Call (.Name "isinstance" p) [a, .Name t q] [] pos) = fun ρ st => (evalE G N n a ρ st).bind fun x s1 => .lift ((isKind x t).map .bool) s1 := by
            funext ρ st
            simp only [evalE, h3, h4, hd, hX, hC]
            rfl
          rw [ee]
          have ht : ∃ tn, (t, tn) ∈ ([("int", "int"), ("bool", "bool"), ("str", "str"), ("list", "list"), ("tuple", "tuple")] : List (Str × String)) ∧ t ∈ bnm := by
            have h7 := h67
            obtain ⟨q, hq, rfl⟩ := List.mem_map.mp h7
            exact ⟨q.2, hq, (show ∀ q ∈ tys, q.1 ∈ bnm by decide) q hq⟩
          obtain ⟨tn, ht, hb⟩ := ht
          exact pe_isi1 ht (c.fr.gl h2) (c.gf.blt _ (by decide)) (c.fr.gl h6.1.1.2) (c.gf.blt _ hb) h6.1.1.1 (S0.e a c h6.2)
        · cases h6
      · rename_i hf
        split at h6
        · rename_i hf2
          subst hf2
          split at h6
          · rename_i g pg a q
            simp only [Bool.and_eq_true, decide_eq_true_eq] at h6
            obtain ⟨⟨⟨rfl, g1⟩, g2⟩, g3⟩ := h6
            have ee : evalE G N (n + 1) (.Call (.Name "sorted" p) [.Call (.Name "set" pg) [a] [] q] [] pos) = fun ρ st => (evalE G N n a ρ st).bind fun x s1 => .lift (sortSet x) s1 := by
              funext ρ st
              simp only [evalE, h3, h4, hd, hX]
              rw [if_neg hf]
              rfl
            rw [ee]
            exact pe_sortSet c.fr.calm (c.fr.gl h2) (c.gf.blt _ (by decide)) (c.fr.gl g1) (c.gf.blt _ (by decide)) g2 (S0.e a c g3)
          · cases h6
        rename_i hf2
        rw [Bool.and_eq_true, Bool.and_eq_true] at h6
        have ee : evalE G N (n + 1) (.Call (.Name f p) args [] pos) = fun ρ st => (evalL G N n args ρ st).bind fun ds s1 => .lift (bi f ds) s1 := by
          funext ρ st
          simp only [evalE, h3, h4, hd, hX]
          rw [if_neg hf, if_neg hf2]
          rfl
        rw [ee]
        exact snd_bi S0 c h1 h2 h6.1.1 h6.1.2 h5 h6.2
  · rename_i o m apos args pos
    simp only [Bool.and_eq_true, decide_eq_true_eq] at h
    obtain ⟨⟨⟨⟨⟨⟨h1, h2⟩, h3⟩, h4⟩, h5⟩, h6⟩, h7⟩ := h
    match args, h5 with
    | [a], _ =>
      have hn : noStar a = true := by simpa using h6
      exact snd_m S0 c h1 h2 h3 h4 hn h7
  · rename_i o at_ pos
    simp only [Bool.and_eq_true] at h
    obtain ⟨⟨h1, h2⟩, h3⟩ := h
    have ee : evalE G N (n + 1) (.Attribute o at_ pos) = fun ρ st => (evalE G N n o ρ st).bind fun x s1 => .lift (G.atf at_ x) s1 := by
      funext ρ st
      simp only [evalE, h1]
    rw [ee]
    exact c.gf.atr at_ h1 X E o _ pos rfl rfl rfl rfl rfl (base_of2 h2) (S0.e o c h3)
  · cases h
end
end MP
set_option Elab.async false
set_option linter.all false
set_option maxRecDepth 100000
set_option maxHeartbeats 1000000
namespace MP
open PySem PySem.Spec PyProof.Rows L2 LamX
section
variable {X : Cx} {T : List (Addr × Str)} {E : XK} {G : Glb} {N : List Str} {sc lsc : Scope} {k : Nat} {ra rb rc : Rho → Sto → Res D}
theorem pt_cmp2 {op op' : CmpOp} {a b c : Expr} {pos : Pos} (hu : X.A.units + 64 < cLine) (hm : behindInMarks op' c = false) (ha : PE X a (tX X.mg T E ra)) (hb : PE X b (tX X.mg T E rb)) (hc : PE X c (tX X.mg T E rc)) :
    PT X (.Compare a [op, op'] [b, c] pos) (tT X.mg T E fun ρ st => ((ra ρ st).bind fun x s1 => (rb ρ s1).bind fun y s2 => match cmpop op x y with
      | some true => (rc ρ s2).bind fun z s3 => .lift ((cmpop op' y z).map .bool) s3
      | some false => .ok (.bool false) s2
      | none => .bad).bind tob) := by
  refine PT.mono (pt_chain (op_cmp (mg := X.mg) (T := T) hu) (op_cmp (mg := X.mg) (T := T) hu) ha hb hc (show lastMarks [op, op'] [b, c] = false from hm)) fun σ H Q ⟨m, ρ, st, R, w⟩ => ?_
  refine ⟨m, ρ, st, R, w.bind.bind.imp fun x m1 s1 H1 R1 E1 w1 v rv => ⟨m1, ρ, s1, R.ext R1 E1, w1.bind.imp fun y m2 s2 H2 R2 E2 w2 u ru => ?_⟩⟩
  split at w2
  · rename_i e
    refine rcmp_of R2 (rv.ext E2) ru e ⟨true, rfl, ?_⟩
    rw [if_pos rfl]
    refine ⟨m2, ρ, s2, (R.ext R1 E1).ext R2 E2, w2.bind.imp fun z m3 s3 H3 R3 E3 w3 t rt => ?_⟩
    obtain ⟨d, e, w3⟩ := w3.lift
    rw [Option.map_eq_some_iff] at e
    obtain ⟨b, e, rfl⟩ := e
    exact rcmp_of R3 (ru.ext E3) rt e ⟨b, rfl, Wok.now (a := b) (st := s3) (w3.now R3) R3⟩
  · rename_i e
    refine rcmp_of R2 (rv.ext E2) ru e ⟨false, rfl, ?_⟩
    rw [if_neg (by decide)]
    exact ⟨false, rfl, Wok.now (a := false) (st := s2) (w2.now R2) R2⟩
  · exact w2.elim
theorem snd_t {n : Nat} (S : ∀ m, m ≤ n → Snd G N T m) (SH : (∃ f, G.isHnd f = true) → Snd G.noH N T n) (e : Expr) (c : Cn X N sc lsc G T k E) (h : ckE G N (n + 1) sc e = true) (ht : tstB e = true) : PT X e (tT X.mg T E fun ρ st => (evalE G N (n + 1) e ρ st).bind tob) := by
  have S0 := S n (Nat.le_refl n)
  have hE := snd_e S SH e c h
  have hu := c.fr.units
  cases e with
  | UnaryOp op a pos =>
    cases op with
    | Not => exact pt_not1 (S0.t a c h ht)
    | _ => exact pt_of hE fun _ => rfl
  | BoolOp op es pos => exact (S0.b op pos es c h).2.pt
  | IfExp _ _ _ _ => exact Bool.noConfusion (show false = true from ht)
  | Compare a ops bs pos =>
    match ops, bs, h, hE, ht with
    | [op], [b], h, hE, ht =>
      have h' : (ckE G N n sc a && ckE G N n sc b && !behindInMarks op b) = true := h
      simp only [Bool.and_eq_true, Bool.not_eq_true'] at h'
      exact pt_cmp1 hu h'.2 (S0.e _ c h'.1.1) (S0.e _ c h'.1.2)
    | [op, op'], [b, d], h, hE, ht =>
      have h' : (ckE G N n sc a && ckE G N n sc b && ckE G N n sc d && !behindInMarks op' d) = true := h
      simp only [Bool.and_eq_true, Bool.not_eq_true'] at h'
      exact pt_cmp2 hu h'.2 (S0.e _ c h'.1.1.1) (S0.e _ c h'.1.1.2) (S0.e _ c h'.1.2)
    | [], _, h, hE, ht => exact Bool.noConfusion (show false = true from ht)
    | [_], [], h, hE, ht => exact Bool.noConfusion (show false = true from ht)
    | [_], _ :: _ :: _, h, hE, ht => exact Bool.noConfusion (show false = true from ht)
    | [_, _], [], h, hE, ht => exact Bool.noConfusion (show false = true from ht)
    | [_, _], [_], h, hE, ht => exact Bool.noConfusion (show false = true from ht)
    | [_, _], _ :: _ :: _ :: _, h, hE, ht => exact Bool.noConfusion (show false = true from ht)
    | _ :: _ :: _ :: _, _, h, hE, ht => exact Bool.noConfusion (show false = true from ht)
  | _ => exact pt_of hE fun _ => rfl
theorem snd_by (SH : ∀ n, (∃ f, G.isHnd f = true) → Snd G.noH N T n) : ∀ n, Snd G N T n := by
  intro n
  induction n using Nat.strongRecOn with
  | ind n ih =>
    cases n with
    | zero => exact ⟨fun e c h => pe_bad fun _ _ => rfl, fun e c h _ => pt_bad fun _ _ => rfl, fun es c h => pa_bad fun _ _ => rfl, fun op pos es c h => ⟨pe_bad fun _ _ => rfl, pw_bad fun _ _ => rfl⟩, fun o c h => po_bad fun _ _ => rfl, fun tg e c h => ⟨pi_bad fun _ _ => rfl, fun z => absurd rfl z⟩⟩
    | succ n =>
      have S : ∀ m, m ≤ n → Snd G N T m := fun m h => ih m (Nat.lt_succ_of_le h)
      have S0 := S n (Nat.le_refl n)
      exact ⟨fun e c h => snd_e S (SH n) e c h, fun e c h ht => snd_t S (SH n) e c h ht, fun es c h => snd_l S0 es c h, fun op pos es c h => snd_b S0 op pos es c h, fun o c h => snd_o S0 o c h, fun tg e c h => ⟨(snd_i S0 tg e c h).1, fun _ => (snd_i S0 tg e c h).2⟩⟩
theorem snd_all (n : Nat) : Snd G N T n := snd_by (fun n _ => snd_by (fun _ h => let ⟨_, h⟩ := h; nomatch h) n) n
end
end MP
set_option Elab.async false
set_option linter.all false
set_option maxRecDepth 100000
set_option maxHeartbeats 1000000
namespace MP
open PySem PySem.Spec PyProof.Rows L2 LamX

def isLoc (sc : Scope) (x : Str) : Bool := sc.names.lookup x == some .local
def parB (N : List Str) (sc : Scope) (ts vs : List Expr) : Bool := match ts, vs with
  | [.Name x _, .Name y _], [_, _] => sw2 sc ts vs && decide (swN sc ts = [x, y]) && (slot N x).isSome && (slot N y).isSome && isLoc sc x && isLoc sc y && decide (x ≠ y)
  | [.Name x _, .Name y _, .Name z _], [_, _, _] => sw2 sc ts vs && decide (swN sc ts = [x, y, z]) && (slot N x).isSome && (slot N y).isSome && (slot N z).isSome && isLoc sc x && isLoc sc y && isLoc sc z && decide (x ≠ y) && decide (x ≠ z) && decide (y ≠ z)
  | _, _ => false
def lcB (N : List Str) (sc : Scope) (x : Str) (p : Pos) : Expr → Bool
  | .ListComp _ [⟨_, _, _, 0⟩] scope cpos => !swl sc x p scope cpos || (isLoc sc x && (slot N x).isSome)
  | .ListComp _ _ _ _ => false
  | .SetComp _ _ _ _ => false
  | .DictComp _ _ _ _ _ => false
  | _ => true
def notSl : Expr → Bool
  | .Slice _ _ _ _ => false
  | _ => true
def notTu : Expr → Bool
  | .Tuple _ _ _ => false
  | .List _ _ => false
  | _ => true
mutual
def ckS (G : Sta) (N : List Str) : Nat → Scope → Stmt → Bool
  | 0, _, _ => true
  | n + 1, sc, s => match s with
    | .Pass _ => true
    | .Continue _ => true
    | .Break _ => true
    | .Return (some e) _ => ckE G N n sc e
    | .Return none _ => true
    | .Expr e _ => notComp e && ckE G N n sc e
    | .Assign [.Tuple ts _ _] (.Tuple vs _ _) _ => ckTs sc ts && decide (vs.length ≤ 100) && vs.all noStar && ckL G N n sc vs && (sw0 sc ts vs || parB N sc ts vs)
    | .Assign [.Subscript o i _] e _ => notSl i && ckE G N n sc o && ckE G N n sc i && ckE G N n sc e
    | .Assign [.Name x p] e _ => locB sc x && ckE G N n sc e && lcB N sc x p e
    | .Assign [.Tuple ts _ _] e _ => ckTs sc ts && ckE G N n sc e && notTu e
    | .If c a b _ => ckQ G N n sc c && ckSs G N n sc a && ckSs G N n sc b
    | .While c body [] _ => ckQ G N n sc c && ckSs G N n sc body
    | .For tg it body [] _ => ckT sc tg && ckI G N n sc tg it && ckSs G N n sc body
    | .Raise (some (.Call (.Name c _) [.Constant (.str _) _ _] [] _)) none _ => G.isExc c && glB sc c && nmB c
    | _ => false
def ckSs (G : Sta) (N : List Str) : Nat → Scope → List Stmt → Bool
  | 0, _, _ => true
  | n + 1, sc, ss => match ss with
    | [] => true
    | s :: ss => ckS G N n sc s && ckSs G N n sc ss
end
structure CnS (X : Cx) (N : List Str) (sc : Scope) (G : Glb) (T : List (Addr × Str)) (k : Nat) (E : XK) : Prop where
  cn : Cn X N sc sc G T k E
  kd : sc.kind = .function
  po : PassesOwn (model X.prog X.w) X.A X.env X.xe
  st : X.stack = X.env :: X.outer ∧ X.env.frame = some X.env.locals
section
variable {X : Cx} {T : List (Addr × Str)} {E : XK} {G : Glb} {N : List Str} {sc : Scope} {k : Nat}
theorem slot_ne {i j : Nat} {x y : Str} (h : x ≠ y) (a : slot N x = some i) (b : slot N y = some j) : i ≠ j := fun e => by
  subst e
  have h1 := slot_at a
  have h2 := slot_at b
  rw [h1] at h2
  exact h (Option.some.inj h2)
theorem ps_par1 (c : CnS X N sc G T k E) {ts vs : List Expr} {kt k2 : Nat} {pt pt2 pos : Pos} {rl : Rho → Sto → Res (List D)} (hs : vs.all noStar = true) (hp : parB N sc ts vs = true) (ha : PA X vs (tL X.mg T E rl)) :
    PS X (.Assign [.Tuple ts kt pt] (.Tuple vs k2 pt2) pos) (tS X.mg T E fun ρ st => (rl ρ st).bind fun ds s1 => match bindN N ts ds ρ with
      | some ρ1 => .ok (.nx ρ1) s1
      | none => .bad) := by
  have F := c.cn.fr
  have hk : X.env.scope.kind = .function := by rw [F.hsc]; exact c.kd
  have nd : X.N.Nodup := by rw [F.hN]; exact F.nd
  unfold parB at hp
  split at hp
  · rename_i x px y py a b
    simp only [Bool.and_eq_true, decide_eq_true_eq, isLoc, beq_iff_eq] at hp
    obtain ⟨⟨⟨⟨⟨⟨h1, h2⟩, sx⟩, sy⟩, h3⟩, h4⟩, h5⟩ := hp
    have hw := sw_some (k := kt) (k2 := k2) (p := pt) (p2 := pt2) hk hs (by rw [F.hsc]; exact h1)
    rw [F.hsc, h2] at hw
    have lx : X.env.scope.names.lookup x = some .local := by rw [F.hsc]; exact h3
    have ly : X.env.scope.names.lookup y = some .local := by rw [F.hsc]; exact h4
    obtain ⟨i, ex⟩ := Option.isSome_iff_exists.mp sx
    obtain ⟨j, ey⟩ := Option.isSome_iff_exists.mp sy
    refine PS.mono (ps_par F.calm nd (by rw [F.hN]; exact slot_at ex) (by rw [F.hN]; exact slot_at ey) (slot_ne h5 ex ey) lx ly ha hw) fun D' σ H h => ?_
    obtain ⟨m, ρ, st, R, w⟩ := h
    refine ⟨m, ρ, st, R, w.bind.imp fun ds m1 s1 H1 R1 E1 w1 us rus => ?_⟩
    split at w1
    · rename_i ρ1 e
      cases rus with
      | nil => cases e
      | cons r1 t1 => cases t1 with
        | nil => simp only [bindN, ex] at e; cases e
        | cons r2 t2 => cases t2 with
          | cons r3 t3 => simp only [bindN, ex, ey] at e; cases e
          | nil =>
            simp only [bindN, ex, ey, Option.some.injEq] at e
            subst e
            exact ⟨_, _, rfl, w1.now R1 _ (((R.re.ext E1).set r1).set r2)⟩
    · exact w1.elim
  · rename_i x px y py z pz a b d
    simp only [Bool.and_eq_true, decide_eq_true_eq, isLoc, beq_iff_eq] at hp
    obtain ⟨⟨⟨⟨⟨⟨⟨⟨⟨⟨h1, h2⟩, sx⟩, sy⟩, sz⟩, h3⟩, h4⟩, h5⟩, h6⟩, h7⟩, h8⟩ := hp
    have hw := sw_some (k := kt) (k2 := k2) (p := pt) (p2 := pt2) hk hs (by rw [F.hsc]; exact h1)
    rw [F.hsc, h2] at hw
    have lx : X.env.scope.names.lookup x = some .local := by rw [F.hsc]; exact h3
    have ly : X.env.scope.names.lookup y = some .local := by rw [F.hsc]; exact h4
    have lz : X.env.scope.names.lookup z = some .local := by rw [F.hsc]; exact h5
    obtain ⟨i, ex⟩ := Option.isSome_iff_exists.mp sx
    obtain ⟨j, ey⟩ := Option.isSome_iff_exists.mp sy
    obtain ⟨l, ez⟩ := Option.isSome_iff_exists.mp sz
    refine PS.mono (ps_par3 F.calm nd (by rw [F.hN]; exact slot_at ex) (by rw [F.hN]; exact slot_at ey) (by rw [F.hN]; exact slot_at ez) (slot_ne h6 ex ey) (slot_ne h7 ex ez) (slot_ne h8 ey ez) lx ly lz ha hw) fun D' σ H h => ?_
    obtain ⟨m, ρ, st, R, w⟩ := h
    refine ⟨m, ρ, st, R, w.bind.imp fun ds m1 s1 H1 R1 E1 w1 us rus => ?_⟩
    split at w1
    · rename_i ρ1 e
      cases rus with
      | nil => cases e
      | cons r1 t1 => cases t1 with
        | nil => simp only [bindN, ex] at e; cases e
        | cons r2 t2 => cases t2 with
          | nil => simp only [bindN, ex, ey] at e; cases e
          | cons r3 t3 => cases t3 with
            | cons r4 t4 => simp only [bindN, ex, ey, ez] at e; cases e
            | nil =>
              simp only [bindN, ex, ey, ez, Option.some.injEq] at e
              subst e
              exact ⟨_, _, _, rfl, w1.now R1 _ ((((R.re.ext E1).set r1).set r2).set r3)⟩
    · exact w1.elim
  · cases hp
/-- o[i] = e -/
theorem ps_put1 (c : CnS X N sc G T k E) {o i e : Expr} {p pos : Pos} {ro ri re : Rho → Sto → Res D} (hi : notSl i = true) (ho : PE X o (tX X.mg T E ro)) (hx : PE X i (tX X.mg T E ri)) (he : PE X e (tX X.mg T E re)) :
    PS X (.Assign [.Subscript o i p] e pos) (tS X.mg T E fun ρ st => (re ρ st).bind fun v s1 => (ro ρ s1).bind fun x s2 => (ri ρ s2).bind fun y s3 => match putItem x y v s3 with
      | some s4 => .ok (.nx ρ) s4
      | none => .bad) := by
  refine PS.mono (ps_asg he (pg_sub ho hx (set_put (mg := X.mg) (T := T)) (fun v => by cases i <;> first | rfl | exact Bool.noConfusion (show false = true from hi))) (show swapsWith e (some (.Subscript o i p)) pos.line X.env = pure false from sw_no (fun x p z => by cases z) _ _) rfl rfl) fun D' σ H h => ?_
  obtain ⟨m, ρ, st, R, w⟩ := h
  refine ⟨m, ρ, st, R, w.bind.imp fun d m1 s1 H1 R1 E1 w1 v rv => ⟨m1, ρ, s1, R.ext R1 E1, w1.bind.imp fun x m2 s2 H2 R2 E2 w2 u ru => ⟨m2, ρ, s2, (R.ext R1 E1).ext R2 E2, w2.bind.imp fun y m3 s3 H3 R3 E3 w3 t rt => ?_⟩⟩⟩
  split at w3
  · rename_i s4 e
    exact ⟨m3, s3, x, y, d, s4, R3, ru.ext E3, rt, (rv.ext E2).ext E3, e, fun H' R' E' => w3 m3 H' R' E' σ ((((R.re.ext E1).ext E2).ext E3).ext E')⟩
  · exact w3.elim
theorem ps_nm1 (c : CnS X N sc G T k E) {x : Str} {e : Expr} {p pos : Pos} {re : Rho → Sto → Res D} (hl : locB sc x = true) (hs : swapsWith e (some (.Name x p)) pos.line X.env = pure false) (he : PE X e (tX X.mg T E re)) :
    PS X (.Assign [.Name x p] e pos) (tS X.mg T E fun ρ st => (re ρ st).bind fun d s1 => match bindT N (.Name x p) d ρ with | some ρ1 => .ok (.nx ρ1) s1 | none => .bad) := by
  refine PS.mono (ps_asg he (pg_t c.cn.fr (tg := .Name x p) (show (locB sc x && true) = true by rw [hl]; rfl)) hs rfl rfl) fun D' σ H h => tasg_of h
theorem snd_s {n : Nat} (ih : ∀ (ss : List Stmt), ckSs G N n sc ss = true → PSs X ss (tS X.mg T E (execB G N n ss))) (c : CnS X N sc G T k E) (s : Stmt) (h : ckS G N (n + 1) sc s = true) : PS X s (tS X.mg T E (execS G N (n + 1) s)) := by
  have S : Snd G N T n := snd_all n
  have S' : ∀ m, m ≤ n → Snd G N T m := fun m _ => snd_all m
  have F := c.cn.fr
  have hk : X.env.scope.kind = .function := by rw [F.hsc]; exact c.kd
  have nd : X.N.Nodup := by rw [F.hN]; exact F.nd
  unfold ckS at h
  split at h
  · exact PS.mono ps_pass fun D' σ H ⟨m, ρ, st, R, w⟩ => w.now R.rs σ R.re
  · exact PS.mono ps_continue fun D' σ H ⟨m, ρ, st, R, w⟩ => w.now R.rs σ R.re
  · exact PS.mono ps_break fun D' σ H ⟨m, ρ, st, R, w⟩ => w.now R.rs σ R.re
  · refine PS.mono (ps_ret (S.e _ c.cn h)) fun D' σ H h => ?_
    obtain ⟨m, ρ, st, R, w⟩ := h
    exact ⟨m, ρ, st, R, (Wok.bind w).imp fun d m1 s1 H1 R1 E1 w1 v rv => w1.now R1 v rv⟩
  · exact PS.mono ps_retN fun D' σ H ⟨m, ρ, st, R, w⟩ => w.now R.rs _ .non
  · rw [Bool.and_eq_true] at h
    refine PS.mono (ps_expr (S.e _ c.cn h.2) (nc_sw h.1 _ _ _)) fun D' σ H h => ?_
    obtain ⟨m, ρ, st, R, w⟩ := h
    exact ⟨m, ρ, st, R, (Wok.bind w).imp fun d m1 s1 H1 R1 E1 w1 v rv => w1.now R1 σ (R.re.ext E1)⟩
  · rename_i ts kt pt vs k2 pt2 pos
    simp only [Bool.and_eq_true, decide_eq_true_eq] at h
    obtain ⟨⟨⟨⟨h1, h2⟩, h3⟩, h4⟩, h5⟩ := h
    have hA := S.l _ c.cn h4
    cases hp : parB N sc ts vs with
    | true => exact ps_par1 c h3 hp hA
    | false =>
      rw [hp, Bool.or_false] at h5
      have hT : PE X (.Tuple vs k2 pt2) (tX X.mg T E fun ρ st => (evalL G N n vs ρ st).bind fun ds s1 => .ok (.tuple ds) s1) := pe_tup1 (Nat.le_trans h2 (by decide)) hA fun ρ st ds s e => evalL_len e
      refine PS.mono (ps_asg hT (pg_t F (tg := .Tuple ts kt pt) h1) rfl (sw_none hk h3 (by rw [F.hsc]; exact h5)) rfl) fun D' σ H h => tasg_of ?_
      obtain ⟨m, ρ, st, R, w⟩ := h
      refine ⟨m, ρ, st, R, ?_⟩
      have w' : Wok X.mg T m H ((evalL G N n vs ρ st).bind fun ds s1 => match bindN N ts ds ρ with
        | some ρ1 => .ok (.nx ρ1) s1
        | none => .bad) (KF X.mg D') E := w
      revert w'
      dsimp only
      cases evalL G N n vs ρ st <;> exact fun w => w
  · rename_i o i p e pos
    simp only [Bool.and_eq_true] at h
    exact ps_put1 c h.1.1.1 (S.e _ c.cn h.1.1.2) (S.e _ c.cn h.1.2) (S.e _ c.cn h.2)
  · rename_i x p e pos
    simp only [Bool.and_eq_true] at h
    obtain ⟨⟨h1, h2⟩, h3⟩ := h
    have hE := S.e _ c.cn h2
    have ee : execS G N (n + 1) (.Assign [.Name x p] e pos) = fun ρ st => (evalE G N n e ρ st).bind fun d s1 => match bindT N (.Name x p) d ρ with | some ρ1 => .ok (.nx ρ1) s1 | none => .bad := by
      cases e <;> rfl
    rw [ee]
    unfold lcB at h3
    split at h3
    · rename_i elt tg it ifs scope cpos
      cases hsw : swl sc x p scope cpos with
      | false => exact ps_nm1 c h1 (by rw [sw_lc hk, F.hsc, hsw]) hE
      | true =>
        rw [hsw] at h3
        simp only [Bool.not_true, Bool.false_or, Bool.and_eq_true, isLoc, beq_iff_eq] at h3
        have hl : sc.names.lookup x = some .local := h3.1
        cases n with
        | zero => exact ps_bad fun _ _ => rfl
        | succ n =>
          have S0 : Snd G N T n := snd_all n
          have h2' := h2
          unfold ckE at h2'
          simp only [Bool.and_eq_true, List.all_eq_true, decide_eq_true_eq] at h2'
          obtain ⟨⟨⟨⟨⟨g1, g2⟩, g3⟩, g4⟩, g5⟩, g6⟩ := h2'
          obtain ⟨i1, i2⟩ := S0.i tg it c.cn g4
          have ok : BlkOk X.N X.env.scope scope (ownSl N scope) := by
            rw [F.hN, F.hsc]
            exact blkOk_by g1
          by_cases hn0 : n = 0
          · subst hn0
            exact ps_bad fun _ _ => rfl
          have i2 := i2 hn0
          obtain ⟨i, hx⟩ := Option.isSome_iff_exists.mp h3.2
          have ww : ∀ {D' : Ends} {σ : L2.St} {H : Hp}, tS X.mg T E (fun ρ st => (evalE G N (n + 1) (.ListComp elt [⟨tg, it, ifs, 0⟩] scope cpos) ρ st).bind fun d s1 => match bindT N (.Name x p) d ρ with | some ρ1 => .ok (.nx ρ1) s1 | none => .bad) D' σ H → tS X.mg T E (fun ρ st => ((evalI G N n it ρ st).bind fun xs s1 => (compZ (rzC G N elt ifs scope) xs (compF N ((ownSl N scope).map (·.2)) tg (evalIf G N n ifs) (evalE G N n elt) ρ) s1).bind fun ds s4 => .ok (.list ds) s4).bind fun d s1 => match bindT N (.Name x p) d ρ with | some ρ1 => .ok (.nx ρ1) s1 | none => .bad) D' σ H := fun w => w
          cases hz : rzC G N elt ifs scope with
          | false =>
            rw [hz] at ww
            refine PS.mono (ps_setLc (i := i) (own := ownSl N scope) (g := gTp X.mg (fun _ => True) N tg) (tt := tT X.mg T E0 (evalIf G N n ifs)) (te := tX X.mg T E0 (evalE G N n elt)) F.calm nd (by rw [F.hN]; exact slot_at hx) (by rw [F.hsc]; exact hl) (by rw [sw_lc hk, F.hsc, hsw]) i1 ok (fun s H C cl fp => PG.mono (pg_t c.cn.blk.fr g2) fun v σ H Q ⟨m, ρ, d, ρ1, a, b, _, c, e⟩ => ⟨m, ρ, d, ρ1, a, b, c, e⟩) (fun s H C cl fp => snd_if (fun m _ => snd_all m) ifs c.cn.blk g5) (fun s H C cl fp => S0.e elt c.cn.blk g6) (fun x => i2 _ x)) fun D' σ H w => ?_
            have w := ww w
            obtain ⟨m, ρ, st, R, w⟩ := w
            refine tlc_of (fun _ => True) (fun _ _ _ _ _ _ _ => trivial) g3 ⟨m, ρ, st, R, (Wok.bind w).imp fun d m1 s1 H1 R1 E1 w1 v rv => ?_⟩
            simp only [bindT, hx, Option.map_some] at w1
            exact w1.now R1 _ ((R.re.ext E1).set rv)
          | true =>
            rw [hz] at ww
            have hnf : ∀ x ∈ scope.names, x.2 ≠ .free := rzC_free hz
            refine PS.mono (ps_setLcx (i := i) (own := ownSl N scope) (g := gTp X.mg (fun _ => True) N tg) (tt := tT X.mg T E (evalIf G N n ifs)) (te := tX X.mg T E (evalE G N n elt)) F.calm nd c.st.1 c.st.2 c.cn.tk (by rw [F.hN]; exact slot_at hx) (by rw [F.hsc]; exact hl) (by rw [sw_lc hk, F.hsc, hsw]) i1 ok hnf (fun s H C cl fp Qz _ => PG.mono (pg_t (Fr.wish c.cn.blk.fr) g2) fun v σ H Q ⟨m, ρ, d, ρ1, a, b, _, c, e⟩ => ⟨m, ρ, d, ρ1, a, b, c, e⟩) (fun s H C cl fp Qz _ => ?_) (fun s H C cl fp Qz tkb => pe_rz c.cn hz g6 tkb) (fun x => i2 _ x)) fun D' σ H w => ?_
            · obtain ⟨_, _, _, _, _, _, _, hi, _⟩ := rzC_elt hz
              subst hi
              exact pts_nilT hn0
            · have w := ww w
              obtain ⟨m, ρ, st, R, w⟩ := w
              refine tlc_ofX (fun _ => True) (fun _ _ _ _ _ _ _ => trivial) g3 ⟨m, ρ, st, R, (Wok.bind w).imp fun d m1 s1 H1 R1 E1 w1 v rv => ?_⟩
              simp only [bindT, hx, Option.map_some] at w1
              exact w1.now R1 _ ((R.re.ext E1).set rv)
    · cases h3
    · cases h3
    · cases h3
    · rename_i n1 n2 n3 n4
      refine ps_nm1 c h1 (nc_sw ?_ _ _ _) hE
      cases e <;> first | rfl | exact (n2 _ _ _ _ rfl).elim | exact (n3 _ _ _ _ rfl).elim | exact (n4 _ _ _ _ _ rfl).elim
  · rename_i ts kt pt e pos _
    simp only [Bool.and_eq_true] at h
    obtain ⟨⟨h1, h2⟩, h3⟩ := h
    have ee : execS G N (n + 1) (.Assign [.Tuple ts kt pt] e pos) = fun ρ st => (evalE G N n e ρ st).bind fun d s1 => match bindT N (.Tuple ts kt pt) d ρ with | some ρ1 => .ok (.nx ρ1) s1 | none => .bad := by
      cases e <;> first | rfl | exact Bool.noConfusion h3
    rw [ee]
    refine PS.mono (ps_asg (S.e _ c.cn h2) (pg_t F (tg := .Tuple ts kt pt) h1) (show swapsWith e (some (.Tuple ts kt pt)) pos.line X.env = pure false from sw_no (fun x p z => by cases z) _ _) ?_ rfl) fun D' σ H h => tasg_of h
    cases e <;> first | rfl | exact Bool.noConfusion h3
  · simp only [Bool.and_eq_true] at h
    refine PS.mono (ps_if (snd_q S' _ c.cn h.1.1) (ih _ h.1.2) (ih _ h.2)) fun D' σ H w => ?_
    obtain ⟨m, ρ, st, R, w⟩ := w
    refine ⟨m, ρ, st, R, (Wok.bind w).imp fun b m1 s1 H1 R1 E1 w1 => ?_⟩
    cases b with
    | true => rw [if_pos rfl]; exact ⟨m1, ρ, s1, R.ext R1 E1, w1⟩
    | false => rw [if_neg Bool.false_ne_true]; exact ⟨m1, ρ, s1, R.ext R1 E1, w1⟩
  · rw [Bool.and_eq_true] at h
    exact PS.mono (ps_while c.po (snd_q S' _ c.cn h.1) (ih _ h.2)) fun D' σ H w => twhile_of WF w
  · simp only [Bool.and_eq_true] at h
    by_cases hn0 : n = 0
    · subst hn0
      exact ps_bad fun _ _ => rfl
    obtain ⟨i1, i2⟩ := S.i _ _ c.cn h.1.2
    exact PS.mono (ps_for c.po F.calm i1 (pg_t F h.1.1) (ih _ h.2) (fun x => i2 hn0 _ x)) fun D' σ H w => tfor_of w
  · rename_i x p m j p2 p3 pos
    simp only [Bool.and_eq_true] at h
    obtain ⟨⟨h1, h2⟩, h3⟩ := h
    obtain ⟨C, bmB, B, newId, initId, e1, e2, e3, e4, e5, e6⟩ := c.cn.gf.exc x h1
    obtain ⟨n1, n2, n3⟩ := nmB_of h3
    refine PS.mono (L2N.ps_raise F.calm c.cn.tk (L2N.pmk_own e4 e3 e1 e2 (raises_own e5 e6) (F.gl h2) n1)) fun D' σ H w => ?_
    obtain ⟨m, ρ, st, R, w⟩ := w
    cases hx : slot N x with
    | some i => simp only [execS, hx] at w; exact w.elim
    | none =>
      simp only [execS, hx] at w
      exact w m H C none (.inr rfl) R.rs (Ext.refl _ _) e1
  · cases h
end
end MP
set_option Elab.async false
set_option linter.all false
set_option maxRecDepth 100000
set_option maxHeartbeats 1000000
namespace MP
open PySem PySem.Spec PyProof.Rows L2 LamX
section
variable {X : Cx} {T : List (Addr × Str)} {E : XK} {G : Glb} {N : List Str} {sc : Scope} {k : Nat}
theorem snd_ss (c : CnS X N sc G T k E) : ∀ (n : Nat) (ss : List Stmt), ckSs G N n sc ss = true → PSs X ss (tS X.mg T E (execB G N n ss)) := by
  intro n
  induction n using Nat.strongRecOn with
  | ind n ih =>
    cases n with
    | zero => exact fun ss _ => pss_bad fun _ _ => rfl
    | succ n =>
      intro ss h
      cases ss with
      | nil => exact PSs.mono pss_nil fun D' σ H ⟨m, ρ, st, R, w⟩ => w.now R.rs σ R.re
      | cons s ss =>
        have h' : (ckS G N n sc s && ckSs G N n sc ss) = true := h
        rw [Bool.and_eq_true] at h'
        have h1 : PS X s (tS X.mg T E (execS G N n s)) := by
          cases n with
          | zero => exact ps_bad fun _ _ => rfl
          | succ n => exact snd_s (ih n (by omega)) c s h'.1
        refine PSs.mono (pss_cons h1 (ih n (Nat.lt_succ_self n) ss h'.2)) fun D' σ H w => ?_
        obtain ⟨m, ρ, st, R, w⟩ := w
        refine ⟨m, ρ, st, R, (Wok.bind w).imp fun fl m1 s1 H1 R1 E1 w1 => ?_⟩
        cases fl with
        | nx ρ1 => exact fun σ1 re1 => ⟨m1, ρ1, s1, ⟨R1, re1⟩, w1⟩
        | rt d => exact w1.now R1
        | bk ρ1 => exact w1.now R1
        | ct ρ1 => exact w1.now R1
end
theorem wok_leave {mg : MG} {T : List (Addr × Str)} {m : MA} {H : Hp} {r : Res D} {Q : VK} {E : XK} (w : Wok mg T m H (leave m.l.length r) (KV mg Q) E) : Wok mg T m H r (KV mg Q) E := by
  cases r with
  | bad => exact w.elim
  | exc c s => exact fun m' H' x od o R Ee hx => w _ H' x od o (R.take _) Ee.take hx
  | ok d s =>
    intro m' H' R Ee v rv
    have key : noref d = true → Wok mg T m H (.ok d (s.take m.l.length)) (KV mg Q) E → Q v H' := fun hn w => w _ H' (R.take _) Ee.take v (rv.less (fun _ => live_take) hn)
    unfold leave at w
    dsimp only at w
    split at w
    · rename_i n
      split at w
      · split at w
        · exact w m' H' R Ee v rv
        · exact w.elim
      · exact w.elim
    · split at w
      · exact key (by assumption) w
      · exact w.elim
/-- a def's facts -/
structure DefOk (K : PySem.W.Frag) (mg : MG) (base : Heap) (T : List (Addr × Str)) (G : Sta) (d : Def) (f : Addr) (fd : FuncData) : Prop where
  at_ : mg d.name = some (.ref f)
  fun_ : ∃ params, FunD K d.name d.name params d.body d.scope [] [] f fd
  sc : FnScope d.N d.ps d.scope
  binds : Binds K fd d.ps []
  ck : ckSs (match d.lam with | true => G | false => G.noH) d.N FD d.scope d.body = true
  code : d.lam = true → ∃ c P, fd.code = .ref c ∧ TabB base mg c P ∧ (P, d.name ++ ".<locals>." ++ "<lambda>") ∈ T ∧ ∀ p ∈ T, p.1 = P → p.2 = d.name ++ ".<locals>." ++ "<lambda>"
theorem fnok_of {P : Program} {w : World} {K : PySem.W.Frag} {mg : MG} {base : Heap} {G : Glb} {T : List (Addr × Str)} {k : Nat} {d : Def} {f : Addr} {fd : FuncData} (g : GF P w K mg base G T k) (F : DefOk K mg base T G d f fd) :
    FnOk P w K mg base (L2N.CX P w) (k + 7) f fd d.ps (spI mg T (runD G d) d.ps.length) := by
  obtain ⟨params, fn⟩ := F.fun_
  obtain ⟨oc, od, dV, kV, doc, pm, an, cdv, ct, osl, efd, lk, hcd, _, _⟩ := fn.ex
  have code := F.code
  subst efd
  refine fn_of (k := k + 6) lk hcd F.sc (fun vs H Q E h => h.1) fun A outer s H vs Q E hr h => ?_
  obtain ⟨hl, m, ds, st, R, rv, wk⟩ := h
  have mk : ∀ (G' : Glb), GF P w K mg base G' T k → (∀ f', G'.isHnd f' = true → d.lam = true) → CnS (cxOf (L2N.CX P w) P w K mg base d.N d.name d.scope f cdv A outer s H E) d.N d.scope G' T k E := fun G' g' hl => {
    cn := {
      fr := ⟨rfl, F.sc.nd, rfl, rfl, fun x h => ⟨(by
        show Loc d.scope x
        unfold locB at h
        split at h
        · exact .inl (by assumption)
        · exact .inr (by assumption)
        · cases h), .inl rfl⟩, hr.units⟩
      tk := L2N.takes_of rfl rfl rfl rfl
      stk := .inl ⟨rfl, rfl⟩
      room := hr.mono (by omega)
      room2 := hr.mono (by omega)
      gf := g'
      lam := fun f' hf => ⟨hr, code (hl f' hf)⟩ }
    kd := F.sc.kind
    po := L2.passes_of rfl
    st := ⟨rfl, rfl⟩ }
  have fin : ∀ (G' : Glb), GF P w K mg base G' T k → (∀ f', G'.isHnd f' = true → d.lam = true) → ckSs G' d.N FD d.scope d.body = true → Wok mg T m H (leave st.length ((execB G' d.N FD d.body (startR d.N ds) st).bind fun fl s => match fl with
      | .rt d => .ok d s
      | .nx _ => .ok .none s
      | _ => .bad)) (KV mg Q) E → ∃ t, PSs (cxOf (L2N.CX P w) P w K mg base d.N d.name d.scope f cdv A outer s H E) d.body t ∧ t { nx := fun _ H' => Q .non H', rt := Q } (L2.start d.N vs) H := fun G' g' hl' hck wk => by
    refine ⟨_, snd_ss (mk G' g' hl') FD d.body hck, m, startR d.N ds, st, ⟨R, re_start rv d.N⟩, ?_⟩
    rw [← R.len] at wk
    refine (Wok.bind (wok_leave wk)).imp fun fl m1 s1 H1 R1 E1 w1 => ?_
    cases fl with
    | nx ρ1 => exact fun σ1 re1 => w1.now R1 _ .non
    | rt d => exact fun v rv => w1.now R1 v rv
    | bk ρ1 => exact w1.elim
    | ct ρ1 => exact w1.elim
  have ck := F.ck
  unfold runD at wk
  split at wk
  · cases hlam : d.lam with
    | true =>
      rw [hlam] at wk ck
      exact fin G g (fun _ _ => hlam) ck wk
    | false =>
      rw [hlam] at wk ck
      exact fin G.noH g.noH (fun _ z => nomatch z) ck wk
  · exact wk.elim
structure Mdl where
  defs : List Def
  g : Glb
def callK (M : Mdl) : Nat → Str → List D → Sto → Res D
  | 0, _, _, _ => .bad
  | k + 1, f, ds, st => match findD M.defs f with
    | some d => runD { M.g with call := callK M k } d ds st
    | none => .bad
def Mdl.at (M : Mdl) (k : Nat) : Glb := { M.g with call := callK M k }
structure MdlOk (P : Program) (w : World) (K : PySem.W.Frag) (mg : MG) (base : Heap) (T : List (Addr × Str)) (M : Mdl) : Prop where
  defs : ∀ x, M.g.isDef x = true → ∃ d f fd, findD M.defs x = some d ∧ d.name = x ∧ DefOk K mg base T M.g d f fd
  kp : ∀ x f, M.g.isDef x = true → mg x = some (.ref f) → PySem.W.keepIn K (.ref f) = true
  cst : ∀ x d, M.g.cst x = some d → ∃ v u, mg x = some u ∧ RelV v u ∧ ∀ m H, RV mg m H v d
  blt : ∀ x ∈ bnm, mg x = none
  nob : mg "!" = none
  hnd : ∀ f, M.g.isHnd f = true → ∃ c, HndF K mg M.g.hnd c f
  exc : ∀ x, M.g.isExc x = true → ∃ C bmB B newId initId, mg x = some (.ref C) ∧ PySem.W.keepIn K (.ref C) = true ∧ PySem.W.excIn K C bmB newId = true ∧ ExcBaseFacts B newId initId bmB ∧ PySem.W.subIn K (.ref C) (.type "BaseException") = some true ∧ PySem.W.typeIn K (.ref C) = some (.type "type")
  xr : ∀ f, M.g.isX f = true → XR P w K mg base T f (M.g.xap f)
  isc : ∀ t, M.g.isCls t = true → IscF K mg t fun c => M.g.isub c t
  atr : ∀ n, M.g.isAt n = true → AR P w K mg base T n (M.g.atf n)
theorem runD_len {G : Glb} {d : Def} {ds : List D} {st : Sto} (h : ds.length ≠ d.ps.length) : runD G d ds st = .bad := if_neg h
theorem gf_all {P : Program} {w : World} {K : PySem.W.Frag} {mg : MG} {base : Heap} {M : Mdl} {T : List (Addr × Str)} (O : MdlOk P w K mg base T M) : ∀ k, GF P w K mg base (M.at k) T (7 * k) := by
  intro k
  induction k with
  | zero =>
    refine ⟨fun x hx => ?_, O.cst, O.blt, O.nob, O.hnd, O.exc, O.xr, O.isc, O.atr⟩
    obtain ⟨d, f, fd, h1, rfl, F⟩ := O.defs x hx
    refine ⟨f, fd, d.ps, F.at_, O.kp _ _ hx F.at_, F.binds, fun _ _ _ => rfl, ⟨fun vs H Q E h => h.1, fun A outer s H args us vs Q E hr e0 hb r h => ?_⟩⟩
    obtain ⟨_, m, ds, st, R, rv, w⟩ := h
    exact w.elim
  | succ k ih =>
    refine ⟨fun x hx => ?_, O.cst, O.blt, O.nob, O.hnd, O.exc, O.xr, O.isc, O.atr⟩
    obtain ⟨d, f, fd, h1, rfl, F⟩ := O.defs x hx
    have e : (M.at (k + 1)).call d.name = runD (M.at k) d := by
      funext ds st
      show callK M (k + 1) d.name ds st = _
      unfold callK
      rw [h1]
      rfl
    refine ⟨f, fd, d.ps, F.at_, O.kp _ _ hx F.at_, F.binds, fun ds st h => by rw [e]; exact runD_len h, ?_⟩
    rw [e]
    exact fnok_of ih F
end MP
set_option Elab.async false
set_option linter.all false
set_option maxRecDepth 100000
set_option maxHeartbeats 1000000
namespace MP
open PySem PySem.Spec PyProof.Rows L2 LamX

structure RowD where
  st : Stmt
  name : Str
  ps : List Str
  N : List Str
  lam : Bool
def RowD.d (r : RowD) : Def := ⟨r.name, r.lam, r.N, r.ps, defBody r.st, defScope r.st⟩
def RowD.dd (r : RowD) : He.DefD := ⟨(r.name, none), r.name, r.name, defArgs r.st, defBody r.st, defScope r.st, [], []⟩
def fnScB (N ps : List Str) (sc : Scope) : Bool := decide (sc.kind = .function) && !sc.isCoroutine && !sc.isGenerator && decide N.Nodup && decide (N.take ps.length = ps) && (ps.all fun x => decide (sc.names.lookup x = some .local) || decide (sc.names.lookup x = some .cell)) && sc.names.all fun y => !decide (y.2 = .free)
theorem fnSc_of {N ps : List Str} {sc : Scope} (h : fnScB N ps sc = true) : FnScope N ps sc := by
  unfold fnScB at h
  simp only [Bool.and_eq_true, Bool.or_eq_true, Bool.not_eq_true', decide_eq_true_eq, decide_eq_false_iff_not, List.all_eq_true] at h
  obtain ⟨⟨⟨⟨⟨⟨h1, h2⟩, h3⟩, h4⟩, h5⟩, h6⟩, h7⟩ := h
  exact ⟨h1, h2, h3, h4, h5, h6, h7⟩
/-- the static check of a def -/
def RowD.ck (G : Sta) (r : RowD) : Bool := fnScB r.N r.ps (defScope r.st) && ckSs (match r.lam with | true => G | false => G.noH) r.N FD (defScope r.st) (defBody r.st)
/-- the arguments' binding -/
def RowD.bd (r : RowD) : Prop := ∀ (kV doc pm : Value) (an : Option Addr) (cdv ct : Value) (us : List Value), us.length = r.ps.length → bindArgs (PySem.W.fnOf r.name r.name (defArgs r.st) (defBody r.st) (defScope r.st) .none kV doc pm an cdv ct) ⟨us, []⟩ = pure (r.ps.zip us)
def noListB (K : PySem.W.Frag) : Bool := K.all fun q => !(q.2.cls == .type "list")
theorem lk_mem : ∀ {K : List (Addr × Obj)} {a : Addr} {o : Obj}, K.lookup a = some o → (a, o) ∈ K
  | [], _, _, h => by cases h
  | (b, u) :: r, a, o, h => by
    rw [List.lookup_cons] at h
    split at h
    · rename_i e
      cases h
      rw [eq_of_beq e]
      exact List.mem_cons_self ..
    · exact List.mem_cons_of_mem _ (lk_mem h)
theorem noList_of {K : PySem.W.Frag} (h : noListB K = true) {a : Addr} {o : Obj} (e : K.lookup a = some o) : o.cls ≠ .type "list" := fun z => by
  have hm : (a, o) ∈ K := lk_mem e
  have := List.all_eq_true.mp h _ hm
  rw [show (a, o).2.cls = .type "list" from z] at this
  simp at this
def excCB (K : PySem.W.Frag) (D : Addr) : Bool := He.eqO (PySem.W.findIn K (.ref D) "__getattribute__") (some (some (.builtin "BaseException.__getattribute__"))) && He.eqO (PySem.W.findIn K (.ref D) "__getattr__") (some none) && decide (PySem.W.subIn K (.ref D) (.type "BaseException") = some true) &&
  PySem.W.hasDictIn K D && He.eqO (PySem.W.findIn K (.ref D) "__class__") (some (some (.builtin "object.__class__"))) && He.eqO (PySem.W.specialIn K (.builtin "object.__class__") "__get__") (some (some (.builtin "getset_descriptor.__get__"))) && decide (PySem.W.takesIn K (.builtin "object.__class__") = some true) && decide (PySem.W.mroIn K D (.type "object") = some true)
theorem excC_of {K : PySem.W.Frag} {D : Addr} (h : excCB K D = true) : ExcC K D := by
  unfold excCB at h
  simp only [Bool.and_eq_true, decide_eq_true_eq] at h
  obtain ⟨⟨⟨⟨⟨⟨⟨h1, h2⟩, h3⟩, h4⟩, h5⟩, h6⟩, h7⟩, h8⟩ := h
  exact ⟨He.eqO_ok h1, He.eqO_ok h2, h3, h4, He.eqO_ok h5, He.eqO_ok h6, h7, h8⟩
/-- what the head is to tell besides -/
def exB (exs cls : List Str) (lams : List Str) (K : PySem.W.Frag) : Bool := noListB K && (exs.all fun x => excCB K (He.ga K x)) && (exs.all fun x => cls.all fun y => decide (PySem.W.kitOne K (.ref (He.ga K x)) (.ref (He.ga K y)) = some (decide (x = y)))) &&
  (exs.all fun x => decide (PySem.W.kitOne K (.ref (He.ga K x)) (.type "ValueError") = some true)) && (lams.all fun x => lams.all fun y => decide (x = y) || !decide ((He.cT K (x, none)).2 = (He.cT K (y, none)).2)) && (lams.all fun x => !decide (mainGlobals = (He.cT K (x, none)).2))
def xtOf (cls : List Str) (x : Str) : Str → Option Bool := fun cn => if cn ∈ cls then some (decide (x = cn)) else if cn = "ValueError" then some true else none
theorem findD_mem : ∀ {ds : List Def} {x : Str} {d : Def}, findD ds x = some d → d ∈ ds ∧ d.name = x
  | [], _, _, h => by cases h
  | e :: ds, x, d, h => by
    unfold findD at h
    split at h
    · cases h
      exact ⟨List.mem_cons_self .., by assumption⟩
    · obtain ⟨h1, h2⟩ := findD_mem h
      exact ⟨List.mem_cons_of_mem _ h1, h2⟩
/-- the facts that the head tells -/
def faOf (rows : List RowD) (exs cls : List Str) (cns : List (Str × Int)) : List He.Fa := rows.map (fun r => .glo r.name) ++ bnm.map .free ++ [.free "!", .free "ValueError"] ++ exs.map .glo ++ exs.map .exc ++ exs.map (fun x => .exm x "WheelError" true) ++ cls.map .glo ++ (.glo "WheelError" :: cns.map fun p => .int p.1 p.2)
theorem lam_of {rows : List RowD} {r : RowD} (hr : r ∈ rows) (hl : r.lam = true) : r.name ∈ (rows.filter (·.lam)).map (·.name) := List.mem_map.mpr ⟨r, List.mem_filter.mpr ⟨hr, hl⟩, rfl⟩
def lamsOf (rows : List RowD) : List Str := (rows.filter (·.lam)).map (·.name)
def tabsOf (K : PySem.W.Frag) (rows : List RowD) : List (Addr × Str) := (lamsOf rows).map fun x => ((He.cT K (x, none)).2, x ++ ".<locals>." ++ "<lambda>")
section
variable {rows : List RowD} {exs cls : List Str} {cns : List (Str × Int)} {g : Glb} {w : World} {h : Heap} {K : PySem.W.Frag} {mg : MG}
/-- all that the head tells -/
abbrev Says (rows : List RowD) (exs cls : List Str) (cns : List (Str × Int)) (w : World) (h : Heap) (K : PySem.W.Frag) : Prop := He.SaysX (faOf rows exs cls cns) (rows.map RowD.dd) [] ((lamsOf rows).map fun x => (x, none)) (exB exs cls (lamsOf rows)) w h K
theorem says_fun (c : Says rows exs cls cns w h K) {r : RowD} (hr : r ∈ rows) : ∃ fd, FunD K r.name r.name (defArgs r.st) (defBody r.st) (defScope r.st) [] [] (He.ga K r.name) fd := c.t.d.defs (List.mem_map.mpr ⟨r, hr, rfl⟩)
theorem says_fact (c : Says rows exs cls cns w h K) {f : He.Fa} (hf : f ∈ faOf rows exs cls cns) : f.ok K = true := c.t.d.facts hf
theorem fa_row {r : RowD} (hr : r ∈ rows) : He.Fa.glo r.name ∈ faOf rows exs cls cns := by
  unfold faOf
  simp only [List.mem_append]
  exact .inl (.inl (.inl (.inl (.inl (.inl (.inl (List.mem_map.mpr ⟨r, hr, rfl⟩)))))))
theorem fa_bnm {x : Str} (hr : x ∈ bnm) : He.Fa.free x ∈ faOf rows exs cls cns := by
  unfold faOf
  simp only [List.mem_append]
  exact .inl (.inl (.inl (.inl (.inl (.inl (.inr (List.mem_map.mpr ⟨x, hr, rfl⟩)))))))
theorem fa_free {x : Str} (hr : x ∈ (["!", "ValueError"] : List Str)) : He.Fa.free x ∈ faOf rows exs cls cns := by
  unfold faOf
  simp only [List.mem_append]
  refine .inl (.inl (.inl (.inl (.inl (.inr ?_)))))
  simp only [List.mem_cons, List.not_mem_nil, or_false] at hr ⊢
  rcases hr with rfl | rfl
  · exact .inl rfl
  · exact .inr rfl
theorem fa_eglo {x : Str} (hr : x ∈ exs) : He.Fa.glo x ∈ faOf rows exs cls cns := by
  unfold faOf
  simp only [List.mem_append]
  exact .inl (.inl (.inl (.inl (.inr (List.mem_map.mpr ⟨x, hr, rfl⟩)))))
theorem fa_exc {x : Str} (hr : x ∈ exs) : He.Fa.exc x ∈ faOf rows exs cls cns := by
  unfold faOf
  simp only [List.mem_append]
  exact .inl (.inl (.inl (.inr (List.mem_map.mpr ⟨x, hr, rfl⟩))))
theorem fa_exm {x : Str} (hr : x ∈ exs) : He.Fa.exm x "WheelError" true ∈ faOf rows exs cls cns := by
  unfold faOf
  simp only [List.mem_append]
  exact .inl (.inl (.inr (List.mem_map.mpr ⟨x, hr, rfl⟩)))
theorem fa_cls {x : Str} (hr : x ∈ cls) : He.Fa.glo x ∈ faOf rows exs cls cns := by
  unfold faOf
  simp only [List.mem_append]
  exact .inl (.inr (List.mem_map.mpr ⟨x, hr, rfl⟩))
theorem fa_we : He.Fa.glo "WheelError" ∈ faOf rows exs cls cns := by
  unfold faOf
  simp only [List.mem_append]
  exact .inr (by simp)
theorem fa_cns {x : Str} {i : Int} (hr : (x, i) ∈ cns) : He.Fa.int x i ∈ faOf rows exs cls cns := by
  unfold faOf
  simp only [List.mem_append]
  exact .inr (List.mem_cons_of_mem _ (List.mem_map.mpr ⟨_, hr, rfl⟩))
theorem says_ex (c : Says rows exs cls cns w h K) : noListB K = true ∧ (∀ x ∈ exs, excCB K (He.ga K x) = true) ∧ (∀ x ∈ exs, ∀ y ∈ cls, PySem.W.kitOne K (.ref (He.ga K x)) (.ref (He.ga K y)) = some (decide (x = y))) ∧ (∀ x ∈ exs, PySem.W.kitOne K (.ref (He.ga K x)) (.type "ValueError") = some true) ∧
    (∀ x ∈ lamsOf rows, ∀ y ∈ lamsOf rows, (He.cT K (x, none)).2 = (He.cT K (y, none)).2 → x = y) ∧ ∀ x ∈ lamsOf rows, mainGlobals ≠ (He.cT K (x, none)).2 := by
  have e := c.more
  unfold exB at e
  simp only [Bool.and_eq_true, List.all_eq_true, decide_eq_true_eq, Bool.or_eq_true, Bool.not_eq_true', decide_eq_false_iff_not] at e
  obtain ⟨⟨⟨⟨⟨e1, e2⟩, e3⟩, e4⟩, e5⟩, e6⟩ := e
  exact ⟨e1, e2, e3, e4, fun x hx y hy z => (e5 x hx y hy).elim id fun n => absurd z n, e6⟩
theorem defOk_of {rowsA : List RowD} (sub : ∀ r ∈ rows, r ∈ rowsA) (KX : K.In h) (Gn : h.Ns mainGlobals mg) (c : Says rowsA exs cls cns w h K) {base : Heap} {G : Sta} (hck : ∀ r ∈ rows, r.ck G = true) (hbd : ∀ r ∈ rows, r.bd) (TB : ∀ p ∈ (lamsOf rowsA).map (fun x => He.cT K (x, none)), TabB base mg p.1 p.2) {r : RowD} (hr : r ∈ rows) :
    ∃ f fd, DefOk K mg base (tabsOf K rowsA) G r.d f fd := by
  obtain ⟨fd, F⟩ := says_fun c (sub _ hr)
  have h1 := hck r hr
  unfold RowD.ck at h1
  rw [Bool.and_eq_true] at h1
  have hglo := He.glo_ok KX Gn (says_fact c (fa_row (sub _ hr)))
  refine ⟨_, fd, hglo, ⟨_, F⟩, fnSc_of h1.1, F.bindsN (hbd r hr), h1.2, fun hl => ?_⟩
  have hl : r.lam = true := hl
  have hlm := lam_of (sub _ hr) hl
  obtain ⟨oc, od, dV, kV, doc, pm, an, cdv, ct, osl, efd, lk, hcd, _, _⟩ := F.ex
  obtain ⟨cc, hcc⟩ := He.codeIn_ref hcd
  have hcode : He.codeOf K (r.name, none) = cc := He.codeOf_eq (p := (r.name, none)) lk (by rw [efd]; exact hcc)
  obtain ⟨_, _, _, _, e5, _⟩ := says_ex c
  refine ⟨cc, (He.cT K (r.name, none)).2, by rw [efd]; exact hcc, ?_, List.mem_map.mpr ⟨r.name, hlm, rfl⟩, fun p hp hP => ?_⟩
  · have := TB (He.cT K (r.name, none)) (List.mem_map.mpr ⟨r.name, hlm, rfl⟩)
    rw [show (He.cT K (r.name, none)).1 = cc from hcode] at this
    exact this
  · obtain ⟨y, hy, rfl⟩ := List.mem_map.mp hp
    rw [e5 y hy r.name hlm hP]
    rfl
theorem mdlOk_of {P : Program} {rowsA : List RowD} (sub : ∀ r ∈ rows, r ∈ rowsA) (KX : K.In h) (Gn : h.Ns mainGlobals mg) (c : Says rowsA exs cls cns w h K) {base : Heap} (hdef : ∀ x, g.isDef x = (findD (rows.map RowD.d) x).isSome) (hexc : ∀ x, g.isExc x = true → x ∈ exs) (hcst : ∀ x d, g.cst x = some d → ∃ i : Int, (x, i) ∈ cns ∧ d = .int i) (hck : ∀ r ∈ rows, r.ck g.toSta = true) (hbd : ∀ r ∈ rows, r.bd)
    (TB : ∀ p ∈ (lamsOf rowsA).map (fun x => He.cT K (x, none)), TabB base mg p.1 p.2) (hh : ∀ f, g.isHnd f = true → ∃ c, HndF K mg g.hnd c f) (hX : ∀ f, g.isX f = true → XR P w K mg base (tabsOf K rowsA) f (g.xap f)) (hI : ∀ t, g.isCls t = true → IscF K mg t fun c => g.isub c t) (hA : ∀ n, g.isAt n = true → AR P w K mg base (tabsOf K rowsA) n (g.atf n)) : MdlOk P w K mg base (tabsOf K rowsA) ⟨rows.map RowD.d, g⟩ where
  defs := fun x hx => by
    rw [hdef x] at hx
    obtain ⟨d, hd⟩ := Option.isSome_iff_exists.mp hx
    obtain ⟨hm, hn⟩ := findD_mem hd
    obtain ⟨r, hr, rfl⟩ := List.mem_map.mp hm
    obtain ⟨f, fd, ok⟩ := defOk_of sub KX Gn c hck hbd TB hr
    exact ⟨r.d, f, fd, hd, hn, ok⟩
  kp := fun x f hx hf => by
    rw [hdef x] at hx
    obtain ⟨d, hd⟩ := Option.isSome_iff_exists.mp hx
    obtain ⟨hm, hn⟩ := findD_mem hd
    obtain ⟨r, hr, rfl⟩ := List.mem_map.mp hm
    obtain ⟨fd, F⟩ := says_fun c (sub _ hr)
    have hglo := He.glo_ok KX Gn (says_fact c (fa_row (sub _ hr)))
    have hn : r.name = x := hn
    rw [hn] at hglo F
    rw [hf] at hglo
    rw [Option.some.inj hglo]
    exact F.kp
  cst := fun x d hx => by
    obtain ⟨i, hi, rfl⟩ := hcst x d hx
    obtain ⟨t, ht⟩ := He.int_ok KX Gn (says_fact c (fa_cns hi))
    exact ⟨.int i, .int i t, ht, ⟨t, rfl⟩, fun m H => .int i⟩
  blt := fun x hx => He.free_ok KX Gn (says_fact c (fa_bnm hx))
  nob := He.free_ok KX Gn (says_fact c (fa_free (by simp)))
  hnd := hh
  exc := fun x hx => by
    have hm := hexc x hx
    obtain ⟨e1, e2, e3, e4⟩ := He.exc_ok (says_fact c (fa_exc hm))
    exact ⟨_, He.veBase, "ValueError", "ValueError.__new__", "ValueError.__init__", He.glo_ok KX Gn (says_fact c (fa_eglo hm)), e2, e1, PySem.F.excBase_ValueError, e3, e4⟩
  xr := hX
  isc := hI
  atr := hA
end
end MP
set_option Elab.async false
set_option linter.all false
set_option maxRecDepth 100000
set_option maxHeartbeats 1000000
namespace MP
open PySem PySem.Spec PyProof.Rows L2 LamX
theorem rvs_ints {mg : MG} {m : MA} {H : Hp} : ∀ ns : List Int, RVs mg m H (ns.map V.int) (ns.map PyData.int)
  | [] => .nil
  | n :: ns => .cons (.int n) (rvs_ints ns)
section
variable {rows rowsA : List RowD} {exs cls : List Str} {cns : List (Str × Int)} {g : Glb} {w : World} {h : Heap} {K : PySem.W.Frag} {mg : MG}
theorem law_at {l : PySem.W.OpenLaw} {n kk : Nat} {x : Str} {fa : Addr} (sub : ∀ r ∈ rows, r ∈ rowsA) (KX : K.In h) (Gn : h.Ns mainGlobals mg) (c : Says rowsA exs cls cns w h K) (hfa : mg ("law" : Str) = some (.ref fa)) (hdef : ∀ x, g.isDef x = (findD (rows.map RowD.d) x).isSome) (hexc : ∀ x, g.isExc x = true → x ∈ exs) (hcst : ∀ x d, g.cst x = some d → ∃ i : Int, (x, i) ∈ cns ∧ d = .int i) (hck : ∀ r ∈ rows, r.ck g.toSta = true) (hbd : ∀ r ∈ rows, r.bd)
    (hh : ∀ f, g.isHnd f = true → ∃ c, HndF K mg g.hnd c f) {r : RowD} (hr : r ∈ rows) (hrn : r.name = "law") (hps : r.ps = [x]) (hn : n ≤ LIM) (hfd : findD (rows.map RowD.d) "law" = some r.d)
    (law : ∀ ns : List Int, ns.length ≤ n → (∀ z ∈ ns, Builtin.Int.intBits z ≤ 1048576) → ∃ st, callK ⟨rows.map RowD.d, g⟩ (kk + 1) "law" [.list (ns.map .int)] [] = .ok (.bool true) st)
    (hX : ∀ base f, g.isX f = true → XR l.prog w K mg base (tabsOf K rowsA) f (g.xap f) := by exact fun _ _ h => Bool.noConfusion (show false = true from h)) (hI : ∀ t, g.isCls t = true → IscF K mg t fun c => g.isub c t := by exact fun _ h => Bool.noConfusion (show false = true from h)) (hA : ∀ base n, g.isAt n = true → AR l.prog w K mg base (tabsOf K rowsA) n (g.atf n) := by exact fun _ _ h => Bool.noConfusion (show false = true from h)) :
    LawAtS l w K (L2N.CX l.prog w) (7 * kk + 7) n x mg fa h := by
  obtain ⟨fd, F⟩ := says_fun c (sub _ hr)
  have hg : fa = He.ga K r.name := by
    have e := He.glo_ok KX Gn (says_fact c (fa_row (sub _ hr)))
    rw [hrn, hfa] at e
    have e := Option.some.inj e
    rw [hrn]
    exact Value.ref.inj e
  subst hg
  obtain ⟨_, _, _, _, _, lk, _⟩ := F.ex
  refine ⟨fd, (lamsOf rowsA).map fun x => He.cT K (x, none), spI mg (tabsOf K rowsA) (callK ⟨rows.map RowD.d, g⟩ (kk + 1) "law") 1, fun p hp => ?_, fun p hp => ?_, fun p hp => ?_, fun s u => ?_, fun H a ns hlen hbits hT hS => ?_, fun base KB NB TB => ?_⟩
  · obtain ⟨y, hy, rfl⟩ := List.mem_map.mp hp
    exact c.empty _ (List.mem_map.mpr ⟨y, hy, rfl⟩)
  · obtain ⟨y, hy, rfl⟩ := List.mem_map.mp hp
    exact c.out _ (List.mem_map.mpr ⟨y, hy, rfl⟩)
  · obtain ⟨y, hy, rfl⟩ := List.mem_map.mp hp
    exact PySem.W.codeHd_of_K KX (c.hd _ (List.mem_map.mpr ⟨y, hy, rfl⟩))
  · have := F.bindsA (hbd r hr) s [u] (by rw [hps]; rfl)
    rw [hps] at this
    exact this
  · refine ⟨rfl, ⟨[], []⟩, [.list (ns.map .int)], [], ⟨rfl, fun i j a hi => ?_, fun i a hi => ?_, fun i hi => ?_, (fun a ha => nomatch ha), fun p hp => ?_⟩, .cons (.lst (vs := ns.map V.int) ?_ ?_ ?_ (rvs_ints ns)) .nil, ?_⟩
    · cases hi
    · cases hi
    · cases hi
    · obtain ⟨y, hy, rfl⟩ := List.mem_map.mp hp
      exact TabS.nil (hT _ (List.mem_map.mpr ⟨y, hy, rfl⟩))
    · rcases hS with z | ⟨o, its, n', e1, e2, _⟩
      · exact z
      · exact absurd e2 (noList_of (says_ex c).1 e1)
    · rintro (⟨i, hi⟩ | hi)
      · cases hi
      · cases hi
    · rw [List.length_map]
      exact Nat.le_trans hlen hn
    · obtain ⟨st, e⟩ := law ns hlen hbits
      rw [e]
      intro m' H' _ _ v rv
      cases rv
      rfl
  · have O : MdlOk l.prog w K mg base (tabsOf K rowsA) ⟨rows.map RowD.d, g⟩ := mdlOk_of (h := h) sub KX Gn c hdef hexc hcst hck hbd TB hh (hX base) hI (hA base)
    obtain ⟨d, f', fd', h1, h2, D⟩ := O.defs "law" (by
      show g.isDef "law" = true
      rw [hdef, hfd]
      rfl)
    have h1 : findD (rows.map RowD.d) "law" = some d := h1
    rw [hfd] at h1
    cases h1
    have ef : f' = He.ga K r.name := by
      have e1 := D.at_
      have e2 : r.d.name = "law" := hrn
      rw [e2, hfa] at e1
      exact (Value.ref.inj (Option.some.inj e1)).symm
    subst ef
    have efd : fd' = fd := by
      obtain ⟨p', F'⟩ := D.fun_
      obtain ⟨oc, od, dV, kV, doc, pm, an, cdv, ct, osl, _, lk1, _⟩ := F'.ex
      obtain ⟨oc2, od2, dV2, kV2, doc2, pm2, an2, cdv2, ct2, osl2, _, lk2, _⟩ := F.ex
      rw [lk1] at lk2
      cases lk2
      rfl
    subst efd
    have ok := fnok_of (P := l.prog) (w := w) (gf_all O kk) D
    have e1 : r.d.ps = [x] := hps
    rw [e1] at ok
    have e2 : callK ⟨rows.map RowD.d, g⟩ (kk + 1) "law" = runD (Mdl.at ⟨rows.map RowD.d, g⟩ kk) r.d := by
      funext ds st
      show (match findD (rows.map RowD.d) "law" with | some d => runD { g with call := callK ⟨rows.map RowD.d, g⟩ kk } d ds st | none => .bad) = _
      rw [hfd]
      rfl
    rw [e2]
    exact ok
end
end MP
set_option Elab.async false
set_option linter.all false
set_option maxRecDepth 100000
set_option maxHeartbeats 1000000
namespace MP
open PySem PySem.Spec PyProof.Rows L2 LamX
section
variable {G : Glb} {N : List Str} {n : Nat} {ρ : Rho} {st : Sto}
theorem x_name {x : Str} {pos : Pos} : evalE G N (n + 1) (.Name x pos) ρ st = (match slot N x with | some i => (match ρ[i]? with | some (some d) => frozen G pos d st | _ => .bad) | none => (match G.cst x with | some d => .ok d st | none => if G.isDef x then .ok (dgl x) st else .bad)) := rfl
theorem x_cst {c : Const} {k : Nat} {pos : Pos} : evalE G N (n + 1) (.Constant c k pos) ρ st = .lift (cst c) st := rfl
theorem x_tup {es : List Expr} {k : Nat} {pos : Pos} : evalE G N (n + 1) (.Tuple es k pos) ρ st = (evalL G N n es ρ st).bind fun ds s1 => .ok (.tuple ds) s1 := rfl
theorem x_list {es : List Expr} {pos : Pos} : evalE G N (n + 1) (.List es pos) ρ st = (evalL G N n es ρ st).bind fun ds s1 => alloc G pos ds s1 := rfl
theorem x_bin {a b : Expr} {op : Operator} {pos : Pos} : evalE G N (n + 1) (.BinOp a op b pos) ρ st = (evalE G N n a ρ st).bind fun x s1 => (evalE G N n b ρ s1).bind fun y s2 => opAt G pos op x y s2 := rfl
theorem x_not {a : Expr} {pos : Pos} : evalE G N (n + 1) (.UnaryOp .Not a pos) ρ st = (evalE G N n a ρ st).bind fun x s1 => (match x with | .bool b => .ok (.bool (!b)) s1 | _ => .bad) := rfl
theorem x_neg {a : Expr} {pos : Pos} : evalE G N (n + 1) (.UnaryOp .USub a pos) ρ st = (evalE G N n a ρ st).bind fun x s1 => (match x with | .int i => .ok (.int (-i)) s1 | _ => .bad) := rfl
theorem x_bool {op : BoolOp} {es : List Expr} {pos : Pos} : evalE G N (n + 1) (.BoolOp op es pos) ρ st = evalB G N n op es ρ st := rfl
theorem x_cmp {a b : Expr} {op : CmpOp} {pos : Pos} : evalE G N (n + 1) (.Compare a [op] [b] pos) ρ st = (evalE G N n a ρ st).bind fun x s1 => (evalE G N n b ρ s1).bind fun y s2 => .lift ((cmpop op x (lookS op y s2)).map .bool) s2 := rfl
theorem x_cmp2 {a b c : Expr} {op op' : CmpOp} {pos : Pos} : evalE G N (n + 1) (.Compare a [op, op'] [b, c] pos) ρ st = (evalE G N n a ρ st).bind fun x s1 => (evalE G N n b ρ s1).bind fun y s2 => (match cmpop op x y with | some true => (evalE G N n c ρ s2).bind fun z s3 => .lift ((cmpop op' y z).map .bool) s3 | some false => .ok (.bool false) s2 | none => .bad) := rfl
theorem x_if {a b c : Expr} {pos : Pos} : evalE G N (n + 1) (.IfExp c a b pos) ρ st = (evalT G N n c ρ st).bind fun t s1 => (match t with | true => evalE G N n a ρ s1 | false => evalE G N n b ρ s1) := rfl
theorem x_slice {o : Expr} {lo hi : Option Expr} {p pos : Pos} : evalE G N (n + 1) (.Subscript o (.Slice lo hi none p) pos) ρ st = (evalE G N n o ρ st).bind fun x s1 => (evalO G N n lo ρ s1).bind fun l s2 => (evalO G N n hi ρ s2).bind fun h s3 => .lift (sliced x l h) s3 := rfl
theorem x_rev {o : Expr} {p1 p2 p3 pos : Pos} {k : Nat} : evalE G N (n + 1) (.Subscript o (.Slice none none (some (.UnaryOp .USub (.Constant (.int 1) k p1) p2)) p3) pos) ρ st = (evalE G N n o ρ st).bind fun x s1 => (match x with | .list xs => .ok (.list xs.reverse) s1 | .tuple xs => .ok (.tuple xs.reverse) s1 | _ => .bad) := rfl
theorem x_sub_name {o : Expr} {pos : Pos} {z : Str} {p : Pos} : evalE G N (n + 1) (.Subscript o (.Name z p) pos) ρ st = (evalE G N n o ρ st).bind fun x s1 => (evalE G N n (.Name z p) ρ s1).bind fun y s2 => .lift (item x y s2) s2 := rfl
theorem x_sub_cst {o : Expr} {pos : Pos} {c : Const} {k : Nat} {p : Pos} : evalE G N (n + 1) (.Subscript o (.Constant c k p) pos) ρ st = (evalE G N n o ρ st).bind fun x s1 => (evalE G N n (.Constant c k p) ρ s1).bind fun y s2 => .lift (item x y s2) s2 := rfl
theorem x_sub_bin {o : Expr} {pos : Pos} {a b : Expr} {op : Operator} {p : Pos} : evalE G N (n + 1) (.Subscript o (.BinOp a op b p) pos) ρ st = (evalE G N n o ρ st).bind fun x s1 => (evalE G N n (.BinOp a op b p) ρ s1).bind fun y s2 => .lift (item x y s2) s2 := rfl
theorem x_sub_un {o : Expr} {pos : Pos} {a : Expr} {op : UnaryOp} {p : Pos} : evalE G N (n + 1) (.Subscript o (.UnaryOp op a p) pos) ρ st = (evalE G N n o ρ st).bind fun x s1 => (evalE G N n (.UnaryOp op a p) ρ s1).bind fun y s2 => .lift (item x y s2) s2 := rfl
theorem x_sub_call {o : Expr} {pos : Pos} {a : Expr} {as : List Expr} {ks : List Keyword} {p : Pos} : evalE G N (n + 1) (.Subscript o (.Call a as ks p) pos) ρ st = (evalE G N n o ρ st).bind fun x s1 => (evalE G N n (.Call a as ks p) ρ s1).bind fun y s2 => .lift (item x y s2) s2 := rfl
theorem x_sub_sub {o : Expr} {pos : Pos} {a b : Expr} {p : Pos} : evalE G N (n + 1) (.Subscript o (.Subscript a b p) pos) ρ st = (evalE G N n o ρ st).bind fun x s1 => (evalE G N n (.Subscript a b p) ρ s1).bind fun y s2 => .lift (item x y s2) s2 := rfl
theorem x_comp {elt tg it : Expr} {ifs : List Expr} {sc : Scope} {pos : Pos} : evalE G N (n + 1) (.ListComp elt [⟨tg, it, ifs, 0⟩] sc pos) ρ st = (evalI G N n it ρ st).bind fun xs s1 =>
        (compZ (rzC G N elt ifs sc) xs (fun x s => match bindT N tg x (wip ρ ((ownSl N sc).map (·.2))) with
          | none => .bad
          | some ρ1 => (evalIf G N n ifs ρ1 s).bind fun b s2 => match b with
            | false => .ok [] s2
            | true => (evalE G N n elt ρ1 s2).bind fun d s3 => .ok [d] s3) s1).bind fun ds s4 => .ok (.list ds) s4 := rfl
theorem x_comp2 {elt tg it tg1 it1 : Expr} {ifs ifs1 : List Expr} {sc : Scope} {pos : Pos} : evalE G N (n + 1) (.ListComp elt [⟨tg, it, ifs, 0⟩, ⟨tg1, it1, ifs1, 0⟩] sc pos) ρ st = (evalI G N n it ρ st).bind fun xs s1 =>
        (compGo xs (fun x s => match bindT N tg x (wip ρ ((ownSl N sc).map (·.2))) with
          | none => .bad
          | some ρ1 => (evalIf G N n ifs ρ1 s).bind fun b s2 => match b with
            | false => .ok [] s2
            | true => (evalI G N n it1 ρ1 s2).bind fun ys s3 => compGo ys (fun y t => match bindT N tg1 y ρ1 with
              | none => .bad
              | some ρ2 => (evalIf G N n ifs1 ρ2 t).bind fun b t2 => match b with
                | false => .ok [] t2
                | true => (evalE G N n elt ρ2 t2).bind fun d t3 => .ok [d] t3) s3) s1).bind fun ds s4 => .ok (.list ds) s4 := rfl
theorem x_call {f : Str} {args : List Expr} {p pos : Pos} : evalE G N (n + 1) (.Call (.Name f p) args [] pos) ρ st = (match slot N f with
      | some i => (match ρ[i]? with
        | some (some (.dict [(.str g, .none)])) => if G.isDef g then (evalL G N n args ρ st).bind fun ds s1 => G.call g ds s1 else .bad
        | _ => .bad)
      | none =>
        if G.isHnd f then (match args with
          | [.Lambda _ body _ _] => (match evalE G.noH N n body ρ st with
            | .ok _ s1 => .ok (.str "") s1
            | .exc c s1 => .lift (G.hnd c) s1
            | .bad => .bad)
          | _ => .bad)
        else if G.isDef f then (evalL G N n args ρ st).bind fun ds s1 => G.call f ds s1
        else if G.isX f then (evalL G N n args ρ st).bind fun ds s1 => .lift (G.xap f ds) s1
        else if f = "isinstance" then (match args with
          | [a, .Name t _] => (match G.isCls t with
            | true => (evalE G N n a ρ st).bind fun x s1 => .lift ((isEx G.isub t x).map .bool) s1
            | false => (evalE G N n a ρ st).bind fun x s1 => .lift ((isKind x t).map .bool) s1)
          | _ => .bad)
        else if f = "sorted" then (match args with
          | [.Call (.Name g _) [a] [] _] => if g = "set" then (evalE G N n a ρ st).bind fun x s1 => .lift (sortSet x) s1 else .bad
          | _ => .bad)
        else (evalL G N n args ρ st).bind fun ds s1 => .lift (bi f ds) s1) := rfl
theorem x_meth {o : Expr} {m : Str} {args : List Expr} {p pos : Pos} : evalE G N (n + 1) (.Call (.Attribute o m p) args [] pos) ρ st = ((evalE G N n o ρ st).bind fun x s1 => match rcv m x s1 with
      | false => .bad
      | true => (evalL G N n args ρ s1).bind fun ds s2 =>
        if m = "append" then (match ds with
          | [v] => (match appItem x v s2 with
            | some s3 => .ok .none s3
            | none => .bad)
          | _ => .bad)
        else .lift (meth m (cntS m x s2) ds) s2) := rfl
theorem l_nil  : evalL G N (n + 1) [] ρ st = .ok [] st := rfl
theorem l_cons {e : Expr} {es : List Expr} : evalL G N (n + 1) (e :: es) ρ st = (evalE G N n e ρ st).bind fun d s1 => (evalL G N n es ρ s1).bind fun ds s2 => .ok (d :: ds) s2 := rfl
theorem b_one {e : Expr} {op : BoolOp} : evalB G N (n + 1) op [e] ρ st = evalE G N n e ρ st := rfl
theorem b_and {e e' : Expr} {es : List Expr} : evalB G N (n + 1) .And (e :: e' :: es) ρ st = (evalE G N n e ρ st).bind fun d s1 => (match d with | .bool true => evalB G N n .And (e' :: es) ρ s1 | .bool false => .ok (.bool false) s1 | _ => .bad) := by
  show (evalE G N n e ρ st).bind _ = _
  congr 1
  funext d s1
  cases d <;> first | rfl | (rename_i b; cases b <;> rfl)
theorem b_or {e e' : Expr} {es : List Expr} : evalB G N (n + 1) .Or (e :: e' :: es) ρ st = (evalE G N n e ρ st).bind fun d s1 => (match d with | .bool true => .ok (.bool true) s1 | .bool false => evalB G N n .Or (e' :: es) ρ s1 | _ => .bad) := by
  show (evalE G N n e ρ st).bind _ = _
  congr 1
  funext d s1
  cases d <;> first | rfl | (rename_i b; cases b <;> rfl)
theorem t_def {e : Expr} : evalT G N (n + 1) e ρ st = (evalE G N n e ρ st).bind fun d s1 => match d with | .bool b => .ok b s1 | _ => .bad := rfl
theorem o_none  : evalO G N (n + 1) none ρ st = .ok none st := rfl
theorem o_some {e : Expr} : evalO G N (n + 1) (some e) ρ st = (evalE G N n e ρ st).bind fun d s1 => match d with | .int i => .ok (some i) s1 | _ => .bad := rfl
theorem f_nil  : evalIf G N (n + 1) [] ρ st = .ok true st := rfl
theorem f_one {e : Expr} : evalIf G N (n + 1) [e] ρ st = evalT G N n e ρ st := rfl
theorem i_call1 {f : Str} {p pos : Pos} {a : Expr} : evalI G N (n + 1) (.Call (.Name f p) [a] [] pos) ρ st = (if f = "range" then (evalE G N n a ρ st).bind fun x s1 => (match x with
        | .int j => if rngOk 0 j then .ok (rngL 0 j) s1 else .bad
        | _ => .bad)
      else if f = "enumerate" then (evalE G N n a ρ st).bind fun x s1 => (match asSeq x with
        | some xs => .ok (enumL xs) s1
        | none => .bad)
      else (evalE G N n (.Call (.Name f p) [a] [] pos) ρ st).bind fun x s1 => .lift (asIt x) s1) := rfl
theorem i_call2 {f : Str} {p pos : Pos} {a b : Expr} : evalI G N (n + 1) (.Call (.Name f p) [a, b] [] pos) ρ st = (if f = "range" then (evalE G N n a ρ st).bind fun x s1 => (evalE G N n b ρ s1).bind fun y s2 => (match x, y with
        | .int i, .int j => if rngOk i j then .ok (rngL i j) s2 else .bad
        | _, _ => .bad)
      else if f = "zip" then (evalE G N n a ρ st).bind fun x s1 => (evalE G N n b ρ s1).bind fun y s2 => (match asSeq x, asSeq y with
        | some xs, some ys => .ok (zipL xs ys) s2
        | _, _ => .bad)
      else (evalE G N n (.Call (.Name f p) [a, b] [] pos) ρ st).bind fun x s1 => .lift (asIt x) s1) := rfl
theorem i_name {z : Str} {p : Pos} : evalI G N (n + 1) (.Name z p) ρ st = (evalE G N n (.Name z p) ρ st).bind fun x s1 => .lift (asIt x) s1 := rfl
theorem i_sub {a b : Expr} {p : Pos} : evalI G N (n + 1) (.Subscript a b p) ρ st = (evalE G N n (.Subscript a b p) ρ st).bind fun x s1 => .lift (asIt x) s1 := rfl
theorem i_bin {a b : Expr} {op : Operator} {p : Pos} : evalI G N (n + 1) (.BinOp a op b p) ρ st = (evalE G N n (.BinOp a op b p) ρ st).bind fun x s1 => .lift (asIt x) s1 := rfl
theorem i_tup {as : List Expr} {k : Nat} {p : Pos} : evalI G N (n + 1) (.Tuple as k p) ρ st = (evalE G N n (.Tuple as k p) ρ st).bind fun x s1 => .lift (asIt x) s1 := rfl
theorem i_list {as : List Expr} {p : Pos} : evalI G N (n + 1) (.List as p) ρ st = (evalE G N n (.List as p) ρ st).bind fun x s1 => .lift (asIt x) s1 := rfl
theorem i_comp {a : Expr} {gs : List Comprehension} {sc : Scope} {p : Pos} : evalI G N (n + 1) (.ListComp a gs sc p) ρ st = (evalE G N n (.ListComp a gs sc p) ρ st).bind fun x s1 => .lift (asIt x) s1 := rfl
theorem i_ife {a b c : Expr} {p : Pos} : evalI G N (n + 1) (.IfExp a b c p) ρ st = (evalE G N n (.IfExp a b c p) ρ st).bind fun x s1 => .lift (asIt x) s1 := rfl
theorem i_meth {a : Expr} {m : Str} {as : List Expr} {p p2 : Pos} : evalI G N (n + 1) (.Call (.Attribute a m p2) as [] p) ρ st = (evalE G N n (.Call (.Attribute a m p2) as [] p) ρ st).bind fun x s1 => .lift (asIt x) s1 := rfl
theorem i_call0 {f : Str} {p p2 : Pos} : evalI G N (n + 1) (.Call (.Name f p2) [] [] p) ρ st = (evalE G N n (.Call (.Name f p2) [] [] p) ρ st).bind fun x s1 => .lift (asIt x) s1 := rfl
theorem i_call3 {f : Str} {a b c : Expr} {as : List Expr} {p p2 : Pos} : evalI G N (n + 1) (.Call (.Name f p2) (a :: b :: c :: as) [] p) ρ st = (evalE G N n (.Call (.Name f p2) (a :: b :: c :: as) [] p) ρ st).bind fun x s1 => .lift (asIt x) s1 := rfl
theorem s_pass {p : Pos} : execS G N (n + 1) (.Pass p) ρ st = .ok (.nx ρ) st := rfl
theorem s_cont {p : Pos} : execS G N (n + 1) (.Continue p) ρ st = .ok (.ct ρ) st := rfl
theorem s_brk {p : Pos} : execS G N (n + 1) (.Break p) ρ st = .ok (.bk ρ) st := rfl
theorem s_ret {e : Expr} {p : Pos} : execS G N (n + 1) (.Return (some e) p) ρ st = (evalE G N n e ρ st).bind fun d s1 => .ok (.rt d) s1 := rfl
theorem s_ret0 {p : Pos} : execS G N (n + 1) (.Return none p) ρ st = .ok (.rt .none) st := rfl
theorem s_expr {e : Expr} {p : Pos} : execS G N (n + 1) (.Expr e p) ρ st = (evalE G N n e ρ st).bind fun _ s1 => .ok (.nx ρ) s1 := rfl
theorem s_asgTT {ts vs : List Expr} {k j : Nat} {p p1 p2 : Pos} : execS G N (n + 1) (.Assign [.Tuple ts k p1] (.Tuple vs j p2) p) ρ st = (evalL G N n vs ρ st).bind fun ds s1 => (match bindN N ts ds ρ with | some ρ1 => .ok (.nx ρ1) s1 | none => .bad) := rfl
theorem s_asgS {o i e : Expr} {p p1 : Pos} : execS G N (n + 1) (.Assign [.Subscript o i p1] e p) ρ st = (evalE G N n e ρ st).bind fun v s1 => (evalE G N n o ρ s1).bind fun x s2 => (evalE G N n i ρ s2).bind fun y s3 => (match putItem x y v s3 with | some s4 => .ok (.nx ρ) s4 | none => .bad) := rfl
theorem s_asgN {x : Str} {e : Expr} {p p1 : Pos} : execS G N (n + 1) (.Assign [.Name x p1] e p) ρ st = (evalE G N n e ρ st).bind fun d s1 => (match bindT N (.Name x p1) d ρ with | some ρ1 => .ok (.nx ρ1) s1 | none => .bad) := rfl
theorem s_asgT_name {ts : List Expr} {k : Nat} {p p1 : Pos} {z : Str} {p0 : Pos} : execS G N (n + 1) (.Assign [.Tuple ts k p1] (.Name z p0) p) ρ st = (evalE G N n (.Name z p0) ρ st).bind fun d s1 => (match bindT N (.Tuple ts k p1) d ρ with | some ρ1 => .ok (.nx ρ1) s1 | none => .bad) := rfl
theorem s_asgT_call {ts : List Expr} {k : Nat} {p p1 : Pos} {a : Expr} {as : List Expr} {ks : List Keyword} {p0 : Pos} : execS G N (n + 1) (.Assign [.Tuple ts k p1] (.Call a as ks p0) p) ρ st = (evalE G N n (.Call a as ks p0) ρ st).bind fun d s1 => (match bindT N (.Tuple ts k p1) d ρ with | some ρ1 => .ok (.nx ρ1) s1 | none => .bad) := rfl
theorem s_asgT_sub {ts : List Expr} {k : Nat} {p p1 : Pos} {a b : Expr} {p0 : Pos} : execS G N (n + 1) (.Assign [.Tuple ts k p1] (.Subscript a b p0) p) ρ st = (evalE G N n (.Subscript a b p0) ρ st).bind fun d s1 => (match bindT N (.Tuple ts k p1) d ρ with | some ρ1 => .ok (.nx ρ1) s1 | none => .bad) := rfl
theorem s_asgT_bin {ts : List Expr} {k : Nat} {p p1 : Pos} {a b : Expr} {op : Operator} {p0 : Pos} : execS G N (n + 1) (.Assign [.Tuple ts k p1] (.BinOp a op b p0) p) ρ st = (evalE G N n (.BinOp a op b p0) ρ st).bind fun d s1 => (match bindT N (.Tuple ts k p1) d ρ with | some ρ1 => .ok (.nx ρ1) s1 | none => .bad) := rfl
theorem s_asgT_comp {ts : List Expr} {k : Nat} {p p1 : Pos} {a : Expr} {gs : List Comprehension} {sc : Scope} {p0 : Pos} : execS G N (n + 1) (.Assign [.Tuple ts k p1] (.ListComp a gs sc p0) p) ρ st = (evalE G N n (.ListComp a gs sc p0) ρ st).bind fun d s1 => (match bindT N (.Tuple ts k p1) d ρ with | some ρ1 => .ok (.nx ρ1) s1 | none => .bad) := rfl
theorem s_asgT_ife {ts : List Expr} {k : Nat} {p p1 : Pos} {a b c : Expr} {p0 : Pos} : execS G N (n + 1) (.Assign [.Tuple ts k p1] (.IfExp a b c p0) p) ρ st = (evalE G N n (.IfExp a b c p0) ρ st).bind fun d s1 => (match bindT N (.Tuple ts k p1) d ρ with | some ρ1 => .ok (.nx ρ1) s1 | none => .bad) := rfl
theorem s_if {c : Expr} {a b : List Stmt} {p : Pos} : execS G N (n + 1) (.If c a b p) ρ st = (evalT G N n c ρ st).bind fun t s1 => (match t with | true => execB G N n a ρ s1 | false => execB G N n b ρ s1) := rfl
theorem s_while {c : Expr} {a : List Stmt} {p : Pos} : execS G N (n + 1) (.While c a [] p) ρ st = whGo WF (fun ρ s => evalT G N n c ρ s) (fun ρ s => execB G N n a ρ s) ρ st := rfl
theorem s_for {tg it : Expr} {a : List Stmt} {p : Pos} : execS G N (n + 1) (.For tg it a [] p) ρ st = (evalI G N n it ρ st).bind fun xs s1 => forGo xs (fun x ρ s => match bindT N tg x ρ with | none => .bad | some ρ1 => execB G N n a ρ1 s) ρ s1 := rfl
theorem s_raise {c : Str} {cc : Const} {k : Nat} {p p1 p2 p3 : Pos} : execS G N (n + 1) (.Raise (some (.Call (.Name c p1) [.Constant cc k p2] [] p3)) none p) ρ st = (match slot N c with | none => .exc c st | some _ => .bad) := rfl
theorem bb_nil  : execB G N (n + 1) [] ρ st = .ok (.nx ρ) st := rfl
theorem bb_cons {s : Stmt} {ss : List Stmt} : execB G N (n + 1) (s :: ss) ρ st = (execS G N n s ρ st).bind fun fl s1 => (match fl with | .nx ρ1 => execB G N n ss ρ1 s1 | fl => .ok fl s1) := rfl
end
theorem fr_off {G : Glb} {p : Pos} {d : D} {st : Sto} (h : G.frz p = false) : frozen G p d st = .ok d st := by
  unfold frozen
  rw [h] <;> rfl
theorem al_off {G : Glb} {p : Pos} {xs : List D} {st : Sto} (h : G.mkr p = false) : alloc G p xs st = .ok (.list xs) st := by
  unfold alloc
  rw [h] <;> rfl
theorem op_off {G : Glb} {p : Pos} {op : Operator} {x y : D} {st : Sto} (h : G.mkr p = false) : opAt G p op x y st = .lift (binop op x y) st := by
  unfold opAt
  rw [h] <;> rfl
theorem wip_nil {ρ : Rho} : wip ρ [] = ρ := rfl
theorem wip_cons {ρ : Rho} {v : Nat} {vs : List Nat} : wip ρ (v :: vs) = (wip ρ vs).set v none := rfl
theorem bT_name {N : List Str} {x : Str} {p : Pos} {d : D} {ρ : Rho} : bindT N (.Name x p) d ρ = (slot N x).map fun i => ρ.set i (some d) := rfl
theorem bT_tup {N : List Str} {es : List Expr} {k : Nat} {p : Pos} {ds : List D} {ρ : Rho} : bindT N (.Tuple es k p) (.tuple ds) ρ = bindN N es ds ρ := rfl
theorem bT_lst {N : List Str} {es : List Expr} {k : Nat} {p : Pos} {ds : List D} {ρ : Rho} : bindT N (.Tuple es k p) (.list ds) ρ = bindN N es ds ρ := rfl
theorem bN_nil {N : List Str} {ρ : Rho} : bindN N [] [] ρ = some ρ := rfl
theorem bN_cons {N : List Str} {x : Str} {p : Pos} {es : List Expr} {d : D} {ds : List D} {ρ : Rho} : bindN N (.Name x p :: es) (d :: ds) ρ = (match slot N x with | some i => bindN N es ds (ρ.set i (some d)) | none => none) := rfl
theorem g_call {M : Mdl} {k : Nat} : (M.at k).call = callK M k := rfl
theorem g_callN {G : Glb} : G.noH.call = G.call := rfl
theorem g_hnd {M : Mdl} {k : Nat} : (M.at k).hnd = M.g.hnd := rfl
theorem callK_run {M : Mdl} {k : Nat} {f : Str} {d : Def} {ds : List D} {st : Sto} (h : findD M.defs f = some d) : callK M (k + 1) f ds st = runD (M.at k) d ds st := by
  show (match findD M.defs f with | some d => runD { M.g with call := callK M k } d ds st | none => .bad) = _
  rw [h] 
  rfl
theorem runD_off {G : Glb} {d : Def} {ds : List D} {st : Sto} (h : ds.length = d.ps.length) (hl : d.lam = false) : runD G d ds st = leave st.length ((execB G.noH d.N FD d.body (startR d.N ds) st).bind fun fl s => match fl with
    | .rt d => .ok d s
    | .nx _ => .ok .none s
    | _ => .bad) := by
  unfold runD
  rw [if_pos h, hl] <;> rfl
theorem runD_on {G : Glb} {d : Def} {ds : List D} {st : Sto} (h : ds.length = d.ps.length) (hl : d.lam = true) : runD G d ds st = leave st.length ((execB G d.N FD d.body (startR d.N ds) st).bind fun fl s => match fl with
    | .rt d => .ok d s
    | .nx _ => .ok .none s
    | _ => .bad) := by
  unfold runD
  rw [if_pos h, hl] <;> rfl
theorem slot_here {r : List Str} {x : Str} : slot (x :: r) x = some 0 := if_pos rfl
theorem slot_next {r : List Str} {x y : Str} (h : decide (y = x) = false) : slot (y :: r) x = (slot r x).map (· + 1) := if_neg (of_decide_eq_false h)
theorem slot_nil {x : Str} : slot [] x = none := rfl
end MP
set_option Elab.async false
set_option linter.all false
set_option maxRecDepth 100000
set_option maxHeartbeats 1000000
namespace MP
open PySem PySem.Spec PyProof.Rows L2 LamX
theorem lv {k : Nat} {d : D} {s : Sto} (h : noref d = true) : leave k (.ok d s) = .ok d (s.take k) := by
  show (match d with
    | .dict [(.int n, .none)] => (match s[n.toNat]? with
      | some (.ml xs) => if decide (0 ≤ n) && decide (k ≤ n.toNat) then Res.ok d s else .bad
      | _ => .bad)
    | d => if noref d then Res.ok d (s.take k) else .bad) = _
  split
  · exact absurd h (by simp [noref])
  · rw [if_pos h]
theorem lv0 {st : Sto} {d : D} (h : noref d = true) : leave st.length (.ok d st) = .ok d st := by
  rw [lv h, List.take_length]
theorem lv_b {st : Sto} {b : Bool} : leave st.length (.ok (.bool b) st) = .ok (.bool b) st := lv0 rfl
theorem lv_i {st : Sto} {b : Int} : leave st.length (.ok (.int b) st) = .ok (.int b) st := lv0 rfl
theorem lv_n {st : Sto} : leave st.length (.ok .none st) = .ok .none st := lv0 rfl
theorem lv_e {st : Sto} {c : Str} : leave st.length (.exc c st) = .exc c st := by
  show Res.exc c (st.take st.length) = _
  rw [List.take_length]
theorem k_ii {i : Int} : isKind (.int i) "int" = some true := rfl
theorem k_ib {i : Int} : isKind (.int i) "bool" = some false := rfl
theorem c_le {i j : Int} : cmpop .LtE (.int i) (.int j) = some (decide (i ≤ j)) := rfl
theorem c_lt {i j : Int} : cmpop .Lt (.int i) (.int j) = some (decide (i < j)) := rfl
theorem c_gt {i j : Int} : cmpop .Gt (.int i) (.int j) = some (decide (j < i)) := rfl
theorem o_add {i j : Int} : binop .Add (.int i) (.int j) = some (.int (i + j)) := rfl
theorem o_sub {i j : Int} : binop .Sub (.int i) (.int j) = some (.int (i - j)) := rfl
theorem compGo_map {α : Type} {emb : α → D} {h : α → List D} {st : Sto} {f : D → Sto → Res (List D)} : ∀ {xs : List α}, (∀ x ∈ xs, f (emb x) st = .ok (h x) st) → compGo (xs.map emb) f st = .ok (xs.flatMap h) st
  | [], _ => rfl
  | x :: xs, hf => by
    simp only [List.map_cons, compGo, hf x (List.mem_cons_self ..), compGo_map fun y hy => hf y (List.mem_cons_of_mem _ hy), List.flatMap_cons]
def d2 (p : Int × Int) : D := .tuple [.int p.1, .int p.2]
theorem zip_ints : ∀ {xs ys : List Int}, zipL (xs.map .int) (ys.map .int) = (xs.zip ys).map d2
  | [], _ => rfl
  | _ :: _, [] => rfl
  | x :: xs, y :: ys => by
    show _ :: zipL (xs.map .int) (ys.map .int) = _
    rw [zip_ints]
    rfl
theorem bi_len_l {xs : List D} : bi "len" [.list xs] = some (.int xs.length) := rfl
theorem bi_len_t {xs : List D} : bi "len" [.tuple xs] = some (.int xs.length) := rfl
theorem bi_tup_l {xs : List D} : bi "tuple" [.list xs] = some (.tuple xs) := rfl
theorem bi_tup_t {xs : List D} : bi "tuple" [.tuple xs] = some (.tuple xs) := rfl
theorem bi_lst_l {xs : List D} : bi "list" [.list xs] = some (.list xs) := rfl
theorem bi_lst_t {xs : List D} : bi "list" [.tuple xs] = some (.list xs) := rfl
theorem bi_int_i {i : Int} : bi "int" [.int i] = some (.int i) := rfl
theorem bi_int_b {b : Bool} : bi "int" [.bool b] = some (.int (if b then 1 else 0)) := rfl
theorem bi_all {xs : List D} : bi "all" [.list xs] = (dBools xs).map fun bs => .bool (bs.all id) := rfl
theorem bi_any {xs : List D} : bi "any" [.list xs] = (dBools xs).map fun bs => .bool (bs.any id) := rfl
theorem dB_map {α : Type} {f : α → Bool} : ∀ {xs : List α}, dBools (xs.map fun x => .bool (f x)) = some (xs.map f)
  | [] => rfl
  | x :: xs => by
    simp only [List.map_cons, dBools, dB_map (xs := xs), Option.map_some]
theorem dI_map {α : Type} {f : α → Int} : ∀ {xs : List α}, dInts (xs.map fun x => .int (f x)) = some (xs.map f)
  | [] => rfl
  | x :: xs => by
    simp only [List.map_cons, dInts, dI_map (xs := xs), Option.map_some]
theorem fm_one {α β : Type} {f : α → β} : ∀ {xs : List α}, xs.flatMap (fun x => [f x]) = xs.map f
  | [] => rfl
  | x :: xs => by
    simp only [List.flatMap_cons, List.map_cons, fm_one (xs := xs), List.singleton_append]
theorem nr_map {α : Type} {f : α → D} (h : ∀ x, noref (f x) = true) : ∀ {xs : List α}, norefs (xs.map f) = true
  | [] => rfl
  | x :: xs => by
    simp only [List.map_cons, norefs, h x, nr_map h (xs := xs), Bool.and_self]
theorem nr_ints : ∀ {xs : List Int}, norefs (xs.map .int) = true := nr_map fun _ => rfl
theorem lv_t {st : Sto} {xs : List D} (h : norefs xs = true) : leave st.length (.ok (.tuple xs) st) = .ok (.tuple xs) st := lv0 h
theorem lv_l {st : Sto} {xs : List D} (h : norefs xs = true) : leave st.length (.ok (.list xs) st) = .ok (.list xs) st := lv0 h
/-- a for by a relation: what is folded, the frame, the store -/
theorem forGo_rel {α σ : Type} {emb : α → D} {f : D → Rho → Sto → Res Fl} {step : σ → α → σ} {R : σ → Rho → Sto → Prop} : ∀ {xs : List α} {s : σ} {ρ : Rho} {st : Sto}, (∀ x ∈ xs, ∀ s ρ st, R s ρ st → ∃ ρ' st', (f (emb x) ρ st = .ok (.nx ρ') st' ∨ f (emb x) ρ st = .ok (.ct ρ') st') ∧ R (step s x) ρ' st') → R s ρ st →
    ∃ ρ' st', forGo (xs.map emb) f ρ st = .ok (.nx ρ') st' ∧ R (xs.foldl step s) ρ' st'
  | [], s, ρ, st, _, r => ⟨ρ, st, rfl, r⟩
  | x :: xs, s, ρ, st, h, r => by
    obtain ⟨ρ1, st1, e, r1⟩ := h x (List.mem_cons_self ..) s ρ st r
    obtain ⟨ρ2, st2, e2, r2⟩ := forGo_rel (xs := xs) (fun y hy => h y (List.mem_cons_of_mem _ hy)) r1
    refine ⟨ρ2, st2, ?_, r2⟩
    show (f (emb x) ρ st).bind _ = _
    rcases e with e | e
    · rw [e]
      exact e2
    · rw [e]
      exact e2
theorem rng_map {n : Nat} : rngL 0 n = (List.range n).map fun i => .int (i : Nat) := by
  unfold rngL
  have : ((n : Int) - 0).toNat = n := by omega
  rw [this]
  refine List.map_congr_left fun i _ => ?_
  rw [Int.zero_add]
def foldO {α σ : Type} (step : σ → α → Option σ) : List α → σ → Option σ
  | [], s => some s
  | x :: xs, s => match step s x with
    | some s1 => foldO step xs s1
    | none => none
/-- a for by a relation, the step partial -/
theorem forGo_O {α σ : Type} {emb : α → D} {f : D → Rho → Sto → Res Fl} {step : σ → α → Option σ} {R : σ → Rho → Sto → Prop} : ∀ {xs : List α} {s s' : σ} {ρ : Rho} {st : Sto}, foldO step xs s = some s' → (∀ x ∈ xs, ∀ s s1 ρ st, step s x = some s1 → R s ρ st → ∃ ρ' st', (f (emb x) ρ st = .ok (.nx ρ') st' ∨ f (emb x) ρ st = .ok (.ct ρ') st') ∧ R s1 ρ' st') → R s ρ st →
    ∃ ρ' st', forGo (xs.map emb) f ρ st = .ok (.nx ρ') st' ∧ R s' ρ' st'
  | [], s, s', ρ, st, e, _, r => by
    cases e
    exact ⟨ρ, st, rfl, r⟩
  | x :: xs, s, s', ρ, st, e, h, r => by
    unfold foldO at e
    split at e
    · rename_i s1 es
      obtain ⟨ρ1, st1, e1, r1⟩ := h x (List.mem_cons_self ..) s s1 ρ st es r
      obtain ⟨ρ2, st2, e2, r2⟩ := forGo_O (xs := xs) e (fun y hy => h y (List.mem_cons_of_mem _ hy)) r1
      refine ⟨ρ2, st2, ?_, r2⟩
      show (f (emb x) ρ st).bind _ = _
      rcases e1 with e1 | e1
      · rw [e1]
        exact e2
      · rw [e1]
        exact e2
    · cases e
theorem cut_map {α β : Type} {f : α → β} {xs : List α} {lo hi : Option Int} : cut (xs.map f) lo hi = (cut xs lo hi).map f := by
  unfold cut
  rw [List.length_map, List.map_take, List.map_drop]
theorem rng0 {j : Int} : rngL 0 j = (List.range j.toNat).map fun i => .int (i : Nat) := by
  unfold rngL
  rw [Int.sub_zero]
  refine List.map_congr_left fun i _ => ?_
  rw [Int.zero_add]
theorem it_l {xs : List D} {i : Int} {st : Sto} : item (.list xs) (.int i) st = nth xs i := rfl
theorem it_t {xs : List D} {i : Int} {st : Sto} : item (.tuple xs) (.int i) st = nth xs i := rfl
theorem nth_map {α β : Type} {f : α → β} {xs : List α} {i : Int} : nth (xs.map f) i = (nth xs i).map f := by
  unfold nth L2.atI
  rw [List.length_map]
  cases L2.ixN xs.length i with
  | none => rfl
  | some j => exact List.getElem?_map ..
theorem sl_l {xs : List D} {lo hi : Option Int} : sliced (.list xs) lo hi = some (.list (cut xs lo hi)) := rfl
theorem sl_t {xs : List D} {lo hi : Option Int} : sliced (.tuple xs) lo hi = some (.tuple (cut xs lo hi)) := rfl
theorem as_l {xs : List D} : asSeq (.list xs) = some xs := rfl
theorem as_t {xs : List D} : asSeq (.tuple xs) = some xs := rfl
theorem o_addl {a b : List D} (h : decide (a.length + b.length ≤ LIM) = true) : binop .Add (.list a) (.list b) = some (.list (a ++ b)) := if_pos (of_decide_eq_true h)
theorem o_addt {a b : List D} (h : decide (a.length + b.length ≤ LIM) = true) : binop .Add (.tuple a) (.tuple b) = some (.tuple (a ++ b)) := if_pos (of_decide_eq_true h)
theorem o_mul {i j : Int} (h : small j = true) : binop .Mult (.int i) (.int j) = some (.int (i * j)) := if_pos (by rw [h, Bool.or_true])
end MP
set_option Elab.async false
set_option linter.all false
set_option maxRecDepth 100000
set_option maxHeartbeats 1000000
namespace MP
open PySem PySem.Spec PyProof.Rows L2 LamX
def restB (G : Glb) (N : List Str) (n : Nat) (ss : List Stmt) (ρ : Rho) (st : Sto) : Res Fl := execB G N n ss ρ st
def forZ (G : Glb) (N : List Str) (n : Nat) (tg : Expr) (a : List Stmt) (x : D) (ρ : Rho) (st : Sto) : Res Fl := match bindT N tg x ρ with | none => .bad | some ρ1 => execB G N n a ρ1 st
def whC (G : Glb) (N : List Str) (n : Nat) (c : Expr) (ρ : Rho) (st : Sto) : Res Bool := evalT G N n c ρ st
section
variable {G : Glb} {N : List Str} {n : Nat} {ρ : Rho} {st : Sto} {o : Option D}
theorem bb_lz {s : Stmt} {ss : List Stmt} : execB G N (n + 1) (s :: ss) ρ st = (execS G N n s ρ st).bind fun fl s1 => (match fl with | .nx ρ1 => restB G N n ss ρ1 s1 | fl => .ok fl s1) := rfl
theorem rb_cons {ss : List Stmt} : restB G N n ss (o :: ρ) st = execB G N n ss (o :: ρ) st := rfl
theorem rb_nil {ss : List Stmt} : restB G N n ss [] st = execB G N n ss [] st := rfl
theorem s_forL {tg it : Expr} {a : List Stmt} {p : Pos} : execS G N (n + 1) (.For tg it a [] p) ρ st = (evalI G N n it ρ st).bind fun xs s1 => forGo xs (forZ G N n tg a) ρ s1 := rfl
theorem ff_cons {tg : Expr} {a : List Stmt} {x : D} : forZ G N n tg a x (o :: ρ) st = (match bindT N tg x (o :: ρ) with | none => .bad | some ρ1 => execB G N n a ρ1 st) := rfl
theorem s_whileL {c : Expr} {a : List Stmt} {p : Pos} : execS G N (n + 1) (.While c a [] p) ρ st = whGo WF (whC G N n c) (restB G N n a) ρ st := rfl
theorem wc_cons {c : Expr} : whC G N n c (o :: ρ) st = evalT G N n c (o :: ρ) st := rfl
end
def Pl (k : Nat) (d : D) : Prop := d.canLay0 = true ∧ d.depth ≤ k
theorem Pl.mono {k k' : Nat} {d : D} (h : Pl k d) (hk : k ≤ k') : Pl k' d := ⟨h.1, Nat.le_trans h.2 hk⟩
theorem pl_none {k : Nat} : Pl k .none := ⟨rfl, Nat.zero_le _⟩
theorem pl_bool {k : Nat} {b : Bool} : Pl k (.bool b) := ⟨rfl, Nat.zero_le _⟩
theorem pl_int {k : Nat} {b : Int} : Pl k (.int b) := ⟨rfl, Nat.zero_le _⟩
theorem pl_str {k : Nat} {b : Str} (h : PyData.canLay0 (.str b) = true) : Pl k (.str b) := ⟨h, Nat.zero_le _⟩
theorem pl_all {k : Nat} : ∀ {xs : List D}, (∀ x ∈ xs, Pl k x) → PyData.canLayAll0 xs = true ∧ PyData.depthAll xs ≤ k
  | [], _ => ⟨rfl, Nat.zero_le _⟩
  | x :: xs, h => by
    obtain ⟨h1, h2⟩ := pl_all fun y hy => h y (List.mem_cons_of_mem _ hy)
    obtain ⟨h3, h4⟩ := h x (List.mem_cons_self ..)
    refine ⟨by simp only [PyData.canLayAll0, h1, h3, Bool.and_self], ?_⟩
    simp only [PyData.depthAll]
    omega
theorem pl_list {k : Nat} {xs : List D} (h : ∀ x ∈ xs, Pl k x) : Pl (k + 1) (.list xs) := by
  obtain ⟨h1, h2⟩ := pl_all h
  exact ⟨by simp only [PyData.canLay0, h1], by simp only [PyData.depth]; omega⟩
theorem pl_tup {k : Nat} {xs : List D} (h : ∀ x ∈ xs, Pl k x) : Pl (k + 1) (.tuple xs) := by
  obtain ⟨h1, h2⟩ := pl_all h
  exact ⟨by simp only [PyData.canLay0, h1], by simp only [PyData.depth]; omega⟩
theorem pl_map {α : Type} {k : Nat} {f : α → D} {xs : List α} (h : ∀ x, Pl k (f x)) : ∀ y ∈ xs.map f, Pl k y := by
  intro y hy
  obtain ⟨x, _, rfl⟩ := List.mem_map.mp hy
  exact h x
theorem pl_ti {k : Nat} {xs : List Int} : Pl (k + 1) (.tuple (xs.map .int)) := pl_tup (pl_map fun _ => pl_int)
theorem pl_li {k : Nat} {xs : List Int} : Pl (k + 1) (.list (xs.map .int)) := pl_list (pl_map fun _ => pl_int)
theorem Pl.ok {x y : D} (hx : Pl 64 x) (hy : Pl 64 y) : okEq x y = true := by
  unfold okEq SeqAt.shaped
  rw [hx.1, hy.1, decide_eq_true hx.2, decide_eq_true hy.2]
  rfl
theorem c_eq {x y : D} (hx : Pl 64 x) (hy : Pl 64 y) : cmpop .Eq x y = some (PyData.eqv x y) := if_pos (hx.ok hy)
theorem c_ne {x y : D} (hx : Pl 64 x) (hy : Pl 64 y) : cmpop .NotEq x y = some (!PyData.eqv x y) := if_pos (hx.ok hy)
def Faith {α : Type} [DecidableEq α] (f : α → D) : Prop := ∀ x y, PyData.eqv (f x) (f y) = decide (x = y)
theorem fa_int : Faith PyData.int := fun x y => by
  show (x == y) = _
  by_cases h : x = y <;> simp [h]
theorem fa_bool : Faith PyData.bool := fun x y => by
  show (x == y) = _
  by_cases h : x = y <;> simp [h]
theorem fa_all {α : Type} [DecidableEq α] {f : α → D} (h : Faith f) : ∀ {xs ys : List α}, PyData.eqvAll (xs.map f) (ys.map f) = decide (xs = ys)
  | [], [] => rfl
  | [], _ :: _ => rfl
  | _ :: _, [] => rfl
  | x :: xs, y :: ys => by
    simp only [List.map_cons, PyData.eqvAll, h x y, fa_all h (xs := xs) (ys := ys)]
    by_cases h1 : x = y <;> by_cases h2 : xs = ys <;> simp [h1, h2]
theorem fa_tup {α : Type} [DecidableEq α] {f : α → D} (h : Faith f) : Faith fun xs : List α => .tuple (xs.map f) := fun _ _ => fa_all h
theorem fa_list {α : Type} [DecidableEq α] {f : α → D} (h : Faith f) : Faith fun xs : List α => .list (xs.map f) := fun _ _ => fa_all h
theorem eqv_ti {xs ys : List Int} : PyData.eqv (.tuple (xs.map .int)) (.tuple (ys.map .int)) = decide (xs = ys) := fa_all fa_int
theorem eqv_li {xs ys : List Int} : PyData.eqv (.list (xs.map .int)) (.list (ys.map .int)) = decide (xs = ys) := fa_all fa_int
theorem c_eq_ii {i j : Int} : cmpop .Eq (.int i) (.int j) = some (decide (i = j)) := by
  rw [c_eq pl_int pl_int, fa_int]
theorem c_ne_ii {i j : Int} : cmpop .NotEq (.int i) (.int j) = some (!decide (i = j)) := by
  rw [c_ne pl_int pl_int, fa_int]
theorem c_eq_bb {i j : Bool} : cmpop .Eq (.bool i) (.bool j) = some (decide (i = j)) := by
  rw [c_eq pl_bool pl_bool, fa_bool]
theorem c_ne_bb {i j : Bool} : cmpop .NotEq (.bool i) (.bool j) = some (!decide (i = j)) := by
  rw [c_ne pl_bool pl_bool, fa_bool]
theorem c_eq_titi {xs ys : List Int} : cmpop .Eq (.tuple (xs.map .int)) (.tuple (ys.map .int)) = some (decide (xs = ys)) := by
  rw [c_eq (pl_ti (k := 63)) (pl_ti (k := 63)), eqv_ti]
theorem c_ne_titi {xs ys : List Int} : cmpop .NotEq (.tuple (xs.map .int)) (.tuple (ys.map .int)) = some (!decide (xs = ys)) := by
  rw [c_ne (pl_ti (k := 63)) (pl_ti (k := 63)), eqv_ti]
theorem c_eq_lili {xs ys : List Int} : cmpop .Eq (.list (xs.map .int)) (.list (ys.map .int)) = some (decide (xs = ys)) := by
  rw [c_eq (pl_li (k := 63)) (pl_li (k := 63)), eqv_li]
theorem c_ne_lili {xs ys : List Int} : cmpop .NotEq (.list (xs.map .int)) (.list (ys.map .int)) = some (!decide (xs = ys)) := by
  rw [c_ne (pl_li (k := 63)) (pl_li (k := 63)), eqv_li]
theorem eqvAll_nil {xs : List D} : PyData.eqvAll xs [] = xs.isEmpty := by cases xs <;> rfl
theorem c_eq_l0 {xs : List D} (h : ∀ x ∈ xs, Pl 63 x) : cmpop .Eq (.list xs) (.list []) = some xs.isEmpty := by
  rw [c_eq (pl_list h) (pl_list (k := 63) (xs := []) fun _ h => absurd h List.not_mem_nil)]
  show some (PyData.eqvAll xs []) = _
  rw [eqvAll_nil]
theorem c_ne_l0 {xs : List D} (h : ∀ x ∈ xs, Pl 63 x) : cmpop .NotEq (.list xs) (.list []) = some !xs.isEmpty := by
  rw [c_ne (pl_list h) (pl_list (k := 63) (xs := []) fun _ h => absurd h List.not_mem_nil)]
  show some (!PyData.eqvAll xs []) = _
  rw [eqvAll_nil]
theorem c_ge {i j : Int} : cmpop .GtE (.int i) (.int j) = some (decide (j ≤ i)) := rfl
theorem nrs_nil : norefs [] = true := rfl
theorem nrs_cons {x : D} {xs : List D} : norefs (x :: xs) = (noref x && norefs xs) := rfl
theorem nr_n : noref .none = true := rfl
theorem nr_i {i : Int} : noref (.int i) = true := rfl
theorem nr_b {i : Bool} : noref (.bool i) = true := rfl
theorem nr_s {i : Str} : noref (.str i) = true := rfl
theorem nr_l {l : List D} : noref (.list l) = norefs l := rfl
theorem nr_t {l : List D} : noref (.tuple l) = norefs l := rfl
theorem norefs_app : ∀ {a b : List D}, norefs a = true → norefs b = true → norefs (a ++ b) = true
  | [], _, _, h => h
  | x :: a, b, h, h' => by
    rw [nrs_cons, Bool.and_eq_true] at h
    rw [List.cons_append, nrs_cons, h.1, norefs_app h.2 h']
    rfl
section
variable {b : Bool} {i : Int} {s : Str} {l : List D}
theorem kd_n_int : isKind .none "int" = some false := rfl
theorem kd_n_bool : isKind .none "bool" = some false := rfl
theorem kd_n_str : isKind .none "str" = some false := rfl
theorem kd_n_list : isKind .none "list" = some false := rfl
theorem kd_n_tuple : isKind .none "tuple" = some false := rfl
theorem ci_n : cmpop .Is .none .none = some true := rfl
theorem cn_n : cmpop .IsNot .none .none = some false := rfl
theorem kd_b_int : isKind (.bool b) "int" = some true := rfl
theorem kd_b_bool : isKind (.bool b) "bool" = some true := rfl
theorem kd_b_str : isKind (.bool b) "str" = some false := rfl
theorem kd_b_list : isKind (.bool b) "list" = some false := rfl
theorem kd_b_tuple : isKind (.bool b) "tuple" = some false := rfl
theorem ci_b : cmpop .Is (.bool b) .none = some false := rfl
theorem cn_b : cmpop .IsNot (.bool b) .none = some true := rfl
theorem kd_i_int : isKind (.int i) "int" = some true := rfl
theorem kd_i_bool : isKind (.int i) "bool" = some false := rfl
theorem kd_i_str : isKind (.int i) "str" = some false := rfl
theorem kd_i_list : isKind (.int i) "list" = some false := rfl
theorem kd_i_tuple : isKind (.int i) "tuple" = some false := rfl
theorem ci_i : cmpop .Is (.int i) .none = some false := rfl
theorem cn_i : cmpop .IsNot (.int i) .none = some true := rfl
theorem kd_s_int : isKind (.str s) "int" = some false := rfl
theorem kd_s_bool : isKind (.str s) "bool" = some false := rfl
theorem kd_s_str : isKind (.str s) "str" = some true := rfl
theorem kd_s_list : isKind (.str s) "list" = some false := rfl
theorem kd_s_tuple : isKind (.str s) "tuple" = some false := rfl
theorem ci_s : cmpop .Is (.str s) .none = some false := rfl
theorem cn_s : cmpop .IsNot (.str s) .none = some true := rfl
theorem kd_l_int : isKind (.list l) "int" = some false := rfl
theorem kd_l_bool : isKind (.list l) "bool" = some false := rfl
theorem kd_l_str : isKind (.list l) "str" = some false := rfl
theorem kd_l_list : isKind (.list l) "list" = some true := rfl
theorem kd_l_tuple : isKind (.list l) "tuple" = some false := rfl
theorem ci_l : cmpop .Is (.list l) .none = some false := rfl
theorem cn_l : cmpop .IsNot (.list l) .none = some true := rfl
theorem kd_t_int : isKind (.tuple l) "int" = some false := rfl
theorem kd_t_bool : isKind (.tuple l) "bool" = some false := rfl
theorem kd_t_str : isKind (.tuple l) "str" = some false := rfl
theorem kd_t_list : isKind (.tuple l) "list" = some false := rfl
theorem kd_t_tuple : isKind (.tuple l) "tuple" = some true := rfl
theorem ci_t : cmpop .Is (.tuple l) .none = some false := rfl
theorem cn_t : cmpop .IsNot (.tuple l) .none = some true := rfl
end
mutual
theorem eqv_self : ∀ {x : D}, x.canLay0 = true → PyData.eqv x x = true
  | .none, _ => rfl
  | .bool b, _ => by simp only [PyData.eqv, BEq.rfl]
  | .int i, _ => by simp only [PyData.eqv, BEq.rfl]
  | .str s, _ => by simp only [PyData.eqv, BEq.rfl]
  | .list xs, h => by
    simp only [PyData.eqv]
    exact eqvAll_self (by simpa only [PyData.canLay0] using h)
  | .tuple xs, h => by
    simp only [PyData.eqv]
    exact eqvAll_self (by simpa only [PyData.canLay0] using h)
  | .dict _, h => by simp only [PyData.canLay0, Bool.false_eq_true] at h
theorem eqvAll_self : ∀ {xs : List D}, PyData.canLayAll0 xs = true → PyData.eqvAll xs xs = true
  | [], _ => rfl
  | x :: xs, h => by
    simp only [PyData.canLayAll0, Bool.and_eq_true] at h
    simp only [PyData.eqvAll, eqv_self h.1, eqvAll_self h.2, Bool.and_self]
end
theorem c_ne_self {x : D} (h : x.canLay0 = true) (h2 : decide (x.depth ≤ 64) = true) : cmpop .NotEq x x = some false := by
  have hp : Pl 64 x := ⟨h, of_decide_eq_true h2⟩
  rw [c_ne hp hp, eqv_self h]
  rfl
theorem c_eq_self {x : D} (h : x.canLay0 = true) (h2 : decide (x.depth ≤ 64) = true) : cmpop .Eq x x = some true := by
  have hp : Pl 64 x := ⟨h, of_decide_eq_true h2⟩
  rw [c_eq hp hp, eqv_self h]
theorem ai_l {xs : List D} : asIt (.list xs) = some xs := rfl
theorem ai_t {xs : List D} : asIt (.tuple xs) = some xs := rfl
theorem ai_s {z : Str} (h : z.length ≤ LIM) : asIt (.str z) = some (chars z) := if_pos h
section
variable {op : CmpOp} {b : Bool} {i : Int} {s : Str} {l : List D} {st : Sto}
theorem cs_n : lookS op .none st = .none := by cases op <;> rfl
theorem cs_b : lookS op (.bool b) st = .bool b := by cases op <;> rfl
theorem cs_i : lookS op (.int i) st = .int i := by cases op <;> rfl
theorem cs_s : lookS op (.str s) st = .str s := by cases op <;> rfl
theorem cs_l : lookS op (.list l) st = .list l := by cases op <;> rfl
theorem cs_t : lookS op (.tuple l) st = .tuple l := by cases op <;> rfl
theorem cs_d {n : Nat} (h : st[n]? = some (.ml l)) : lookS .In (.dict [(.int (n : Int), .none)]) st = .list l := by
  unfold lookS
  simp only [Int.toNat_natCast, h]
  rw [if_pos (by omega)]
end
theorem o_mulL {i j : Int} (h : small i = true) : binop .Mult (.int i) (.int j) = some (.int (i * j)) := if_pos (by rw [h, Bool.true_or])
theorem small_of {i : Int} (h : -(2 ^ 64) < i ∧ i < 2 ^ 64) : small i = true := decide_eq_true (by omega)
theorem o_mod {i j : Int} (h : 0 < j) : binop .Mod (.int i) (.int j) = some (.int (i % j)) := if_pos (decide_eq_true h)
theorem o_div {i j : Int} (h : 0 < j) (h2 : j < 1073741824) : binop .FloorDiv (.int i) (.int j) = some (.int (i / j)) := if_pos (by rw [decide_eq_true h, decide_eq_true h2]; rfl)
theorem o_pow {i j : Int} (h : 0 ≤ j ∧ j ≤ 1000000) (hs : small i = true) : binop .Pow (.int i) (.int j) = some (.int (i ^ j.toNat)) := if_pos (by rw [decide_eq_true h.1, decide_eq_true h.2, hs]; rfl)
theorem rep_one {α : Type} {k : Int} {x : α} : rep k [x] = List.replicate k.toNat x := by
  unfold rep
  generalize k.toNat = n
  induction n with
  | zero => rfl
  | succ n ih => rw [List.replicate_succ, List.flatten_cons, ih, List.replicate_succ]; rfl
theorem o_rept {x : D} {k : Int} (h : -1000 < k) (h2 : k < 1000) : binop .Mult (.tuple [x]) (.int k) = some (.tuple (List.replicate k.toNat x)) := by
  rw [← rep_one]
  exact if_pos (by rw [decide_eq_true h, decide_eq_true h2]; rfl)
theorem o_repl {x : D} {k : Int} (h : -1000 < k) (h2 : k < 1000) : binop .Mult (.list [x]) (.int k) = some (.list (List.replicate k.toNat x)) := by
  rw [← rep_one]
  exact if_pos (by rw [decide_eq_true h, decide_eq_true h2]; rfl)
theorem o_rep2 {x : D} : binop .Mult (.list [x]) (.int 2) = some (.list [x, x]) := o_repl (by decide) (by decide)
theorem o_rep3 {x : D} : binop .Mult (.list [x]) (.int 3) = some (.list [x, x, x]) := o_repl (by decide) (by decide)
theorem o_rep4 {x : D} : binop .Mult (.list [x]) (.int 4) = some (.list [x, x, x, x]) := o_repl (by decide) (by decide)
theorem o_rep7t {x : D} : binop .Mult (.tuple [x]) (.int 7) = some (.tuple [x, x, x, x, x, x, x]) := o_rept (by decide) (by decide)
theorem rng_nat {n : Nat} : rngL 0 (n : Int) = (List.range n).map fun i => .int (i : Nat) := rng_map
theorem rng_ab {a b : Nat} : rngL (a : Int) (b : Int) = (List.range (b - a)).map fun i => .int ((a + i : Nat) : Int) := by
  unfold rngL
  have : ((b : Int) - a).toNat = b - a := by omega
  rw [this]
  refine List.map_congr_left fun i _ => ?_
  congr 1
theorem rng_1 {b : Nat} : rngL 1 (b : Int) = (List.range (b - 1)).map fun i => .int ((i + 1 : Nat) : Int) := by
  have := rng_ab (a := 1) (b := b)
  rw [show ((1 : Nat) : Int) = 1 from rfl] at this
  rw [this]
  refine List.map_congr_left fun i _ => ?_
  rw [Nat.add_comm]
theorem rngOk1 {b : Nat} (hb : b ≤ 10000) : rngOk 1 (b : Int) = true := by
  unfold rngOk
  simp only [Bool.and_eq_true, decide_eq_true_eq]
  unfold LIM
  omega
theorem range_split {n x : Nat} {pre post : List Nat} (h : List.range n = pre ++ x :: post) : x = pre.length ∧ pre.length < n := by
  have hl := congrArg List.length h
  simp only [List.length_range, List.length_append, List.length_cons] at hl
  have hg : (List.range n)[pre.length]? = some x := by rw [h]; simp
  rw [List.getElem?_range (by omega)] at hg
  exact ⟨(Option.some.inj hg).symm, by omega⟩
theorem rep_map {α : Type} {f : α → D} {n : Nat} {x : α} : List.replicate n (f x) = (List.replicate n x).map f := by rw [List.map_replicate]
theorem rngOk_nat {a b : Nat} (ha : a ≤ LIM) (hb : b ≤ LIM) : rngOk (a : Int) (b : Int) = true := by
  unfold LIM at ha hb
  unfold rngOk
  simp only [Bool.and_eq_true, decide_eq_true_eq]
  unfold LIM
  omega
theorem rngOk0 {b : Nat} (hb : b ≤ LIM) : rngOk 0 (b : Int) = true := rngOk_nat (a := 0) (Nat.zero_le _) hb
theorem rngOk_int {b : Int} (hb : b ≤ 16777216) (h0 : -16777216 ≤ b) : rngOk 0 b = true := by
  unfold rngOk
  simp only [Bool.and_eq_true, decide_eq_true_eq]
  unfold LIM
  omega
theorem rngOkS {b : Nat} (hb : b ≤ 10000) : rngOk 0 (b : Int) = true := rngOk0 (Nat.le_trans hb (by decide))
theorem rngOkT {a b : Nat} (ha : a ≤ 10000) (hb : b ≤ 10000) : rngOk (a : Int) (b : Int) = true := rngOk_nat (Nat.le_trans ha (by decide)) (Nat.le_trans hb (by decide))
theorem o_addlS {a b : List D} (h : a.length + b.length ≤ 100000) : binop .Add (.list a) (.list b) = some (.list (a ++ b)) := o_addl (decide_eq_true (Nat.le_trans h (by decide)))
theorem o_addtS {a b : List D} (h : a.length + b.length ≤ 100000) : binop .Add (.tuple a) (.tuple b) = some (.tuple (a ++ b)) := o_addt (decide_eq_true (Nat.le_trans h (by decide)))
theorem nth_nat {α : Type} {xs : List α} {i : Nat} : nth xs (i : Int) = xs[i]? := by
  unfold nth L2.atI L2.ixN
  rw [if_pos (by omega : (0 : Int) ≤ i)]
  by_cases h : i < xs.length
  · rw [if_pos (by omega)]
    show xs[(i : Int).toNat]? = _
    rw [Int.toNat_natCast]
  · rw [if_neg (by omega)]
    exact (List.getElem?_eq_none (by omega)).symm
theorem nth_int {α : Type} {xs : List α} {i : Int} (h : 0 ≤ i) : nth xs i = xs[i.toNat]? := by
  have := nth_nat (xs := xs) (i := i.toNat)
  rwa [Int.toNat_of_nonneg h] at this
theorem nth_0 {α : Type} {x : α} {xs : List α} : nth (x :: xs) 0 = some x := nth_nat (i := 0)
theorem nth_1 {α : Type} {x y : α} {xs : List α} : nth (x :: y :: xs) 1 = some y := nth_nat (i := 1)
theorem nth_2 {α : Type} {x y z : α} {xs : List α} : nth (x :: y :: z :: xs) 2 = some z := nth_nat (i := 2)
theorem nth_last {α : Type} {xs : List α} : nth xs (-1) = xs.getLast? := by
  unfold nth L2.atI L2.ixN
  rw [if_neg (by omega)]
  cases xs with
  | nil => rfl
  | cons x xs =>
    rw [if_pos (by simp only [List.length_cons]; omega)]
    show (x :: xs)[(-1 + (((x :: xs).length : Nat) : Int)).toNat]? = _
    rw [List.getLast?_eq_getElem?]
    congr 1
    simp only [List.length_cons]
    omega
theorem cut_to {α : Type} {xs : List α} {i : Nat} : cut xs none (some (i : Int)) = xs.take i := by
  unfold cut
  rw [HT.sIx_none, HT.sIx_nat, List.drop_zero, Nat.sub_zero]
  rw [← List.take_eq_take_min]
theorem cut_from {α : Type} {xs : List α} {i : Nat} : cut xs (some (i : Int)) none = xs.drop i := by
  unfold cut
  rw [HT.sIx_none, HT.sIx_nat]
  by_cases h : i ≤ xs.length
  · rw [Nat.min_eq_left h]
    exact List.take_of_length_le (by rw [List.length_drop]; omega)
  · rw [Nat.min_eq_right (by omega), List.drop_of_length_le (by omega : xs.length ≤ i), List.drop_of_length_le (Nat.le_refl _)]
    exact List.take_nil
theorem cut_mid {α : Type} {xs : List α} {i j : Nat} (hi : i ≤ xs.length) (hj : j ≤ xs.length) : cut xs (some (i : Int)) (some (j : Int)) = (xs.drop i).take (j - i) := by
  unfold cut
  rw [HT.sIx_nat, HT.sIx_nat, Nat.min_eq_left hi, Nat.min_eq_left hj]
theorem cut_m1 {α : Type} {xs : List α} : cut xs none (some (-1)) = xs.dropLast := by
  unfold cut
  have e : HT.sIx xs.length xs.length (some (-1)) = xs.length - 1 := by
    show (if (-1 : Int) < 0 then (-1 + (xs.length : Int)).toNat else min (-1 : Int).toNat xs.length) = _
    rw [if_pos (by decide)]
    omega
  rw [HT.sIx_none, e, List.drop_zero, Nat.sub_zero, List.dropLast_eq_take]
theorem gd {xs : List Int} {i : Nat} (h : i < xs.length) : xs[i]? = some (xs.getD i 0) := by
  rw [List.getD_eq_getElem?_getD, List.getElem?_eq_getElem h]
  rfl
theorem enum_t {α : Type} {f : α → D} {xs : List α} : enumL (xs.map f) = xs.zipIdx.map fun p => .tuple [.int (p.2 : Nat), f p.1] := by
  unfold enumL
  rw [List.length_map]
  refine List.ext_getElem ?_ fun i h1 h2 => ?_
  · simp
  · simp
theorem dr_nat {n : Nat} : ((n : Int)).toNat = n := Int.toNat_natCast n
theorem it_d {n : Nat} {i : Int} {st : Sto} {xs : List D} (h : st[n]? = some (.ml xs)) : item (.dict [(.int (n : Int), .none)]) (.int i) st = nth xs i := by
  unfold item
  simp only [dr_nat, h]
  rw [if_pos (by omega)]
theorem pi_d {n : Nat} {i : Nat} {v : D} {st : Sto} {xs : List D} (h : st[n]? = some (.ml xs)) (hi : i < xs.length) (hv : noref v = true) : putItem (.dict [(.int (n : Int), .none)]) (.int (i : Int)) v st = some (st.set n (.ml (xs.set i v))) := by
  unfold putItem
  have e : L2.ixN xs.length (i : Int) = some i := by
    unfold L2.ixN
    rw [if_pos (by omega), if_pos (by omega), Int.toNat_natCast]
  simp only [dr_nat, h, e, hv]
  rw [if_pos (by rw [decide_eq_true (by omega : (0 : Int) ≤ n)]; rfl)]
theorem pi_0 {n : Nat} {v x : D} {st : Sto} {xs : List D} (h : st[n]? = some (.ml (x :: xs))) (hv : noref v = true) : putItem (.dict [(.int (n : Int), .none)]) (.int 0) v st = some (st.set n (.ml (v :: xs))) := pi_d (i := 0) h (by simp) hv
theorem pi_1 {n : Nat} {v x y : D} {st : Sto} {xs : List D} (h : st[n]? = some (.ml (x :: y :: xs))) (hv : noref v = true) : putItem (.dict [(.int (n : Int), .none)]) (.int 1) v st = some (st.set n (.ml (x :: v :: xs))) := pi_d (i := 1) h (by simp) hv
theorem at_set {n : Nat} {o : Ob} {st : Sto} (h : n < st.length) : (st.set n o)[n]? = some o := List.getElem?_set_self h
theorem set_set {n : Nat} {o o' : Ob} {st : Sto} : (st.set n o).set n o' = st.set n o' := List.set_set ..
theorem p18 : binop .Pow (.int 10) (.int 18) = some (.int 1000000000000000000) := by
  rw [o_pow (by decide) (by decide)]
  rfl
theorem p9 : binop .Pow (.int 10) (.int 9) = some (.int 1000000000) := by
  rw [o_pow (by decide) (by decide)]
  rfl
theorem p6 : binop .Pow (.int 10) (.int 6) = some (.int 1000000) := by
  rw [o_pow (by decide) (by decide)]
  rfl
theorem ap_d {n : Nat} {v : D} {st : Sto} {xs : List D} (h : st[n]? = some (.ml xs)) (hl : xs.length < LIM) (hv : noref v = true) : appItem (.dict [(.int (n : Int), .none)]) v st = some (st.set n (.ml (xs ++ [v]))) := by
  unfold appItem
  simp only [dr_nat, h, hv]
  rw [if_pos (by rw [decide_eq_true (by omega : (0 : Int) ≤ n), decide_eq_true hl]; rfl)]
theorem ap_dS {n : Nat} {v : D} {st : Sto} {xs : List D} (h : st[n]? = some (.ml xs)) (hl : xs.length ≤ 100000) (hv : noref v = true) : appItem (.dict [(.int (n : Int), .none)]) v st = some (st.set n (.ml (xs ++ [v]))) := ap_d h (Nat.lt_of_le_of_lt hl (by decide)) hv
theorem rc_d {n : Nat} {st : Sto} {xs : List D} (h : st[n]? = some (.ml xs)) : rcv "append" (.dict [(.int (n : Int), .none)]) st = true := by
  show (match st[((n : Int)).toNat]? with
      | some (.ml _) => decide ((0 : Int) ≤ n)
      | _ => false) = true
  rw [dr_nat, h]
  exact decide_eq_true (by omega)
theorem fr_on {G : Glb} {p : Pos} {n : Nat} {st : Sto} {xs : List D} (hp : G.frz p = true) (h : st[n]? = some (.ml xs)) : frozen G p (.dict [(.int (n : Int), .none)]) st = .ok (.list xs) (st.set n .dead) := by
  unfold frozen
  simp only [hp, dr_nat, h]
  rw [if_pos (by omega)]
theorem al_on {G : Glb} {p : Pos} {xs : List D} {st : Sto} (h : G.mkr p = true) (hx : norefs xs = true) : alloc G p xs st = .ok (.dict [(.int (st.length : Int), .none)]) (st ++ [.ml xs]) := by
  unfold alloc
  simp only [h, hx]
  rfl
theorem al_on0 {G : Glb} {p : Pos} {st : Sto} (h : G.mkr p = true) : alloc G p [] st = .ok (.dict [(.int (st.length : Int), .none)]) (st ++ [.ml []]) := al_on h rfl
theorem op_onM {G : Glb} {p : Pos} {a : List D} {k : Int} {st : Sto} {xs : List D} (h : G.mkr p = true) (e : binop .Mult (.list a) (.int k) = some (.list xs)) (hx : norefs xs = true) : opAt G p .Mult (.list a) (.int k) st = .ok (.dict [(.int (st.length : Int), .none)]) (st ++ [.ml xs]) := by
  unfold opAt
  simp only [h, e]
  exact al_on h hx
theorem op_onA {G : Glb} {p : Pos} {a b : List D} {st : Sto} {xs : List D} (h : G.mkr p = true) (e : binop .Add (.list a) (.list b) = some (.list xs)) (hx : norefs xs = true) : opAt G p .Add (.list a) (.list b) st = .ok (.dict [(.int (st.length : Int), .none)]) (st ++ [.ml xs]) := by
  unfold opAt
  simp only [h, e]
  exact al_on h hx
theorem at_new {st : Sto} {o : Ob} : (st ++ [o])[st.length]? = some o := by simp
theorem set_new {st : Sto} {o o' : Ob} : (st ++ [o]).set st.length o' = st ++ [o'] := by simp
theorem take_new {st st' : Sto} : (st ++ st').take st.length = st := by simp
theorem lvd {st s : Sto} {d : D} (h : noref d = true) (e : s.take st.length = st) : leave st.length (.ok d s) = .ok d st := by rw [lv h, e]
theorem lvx {k : Nat} {s : Sto} {xs : List D} (hk : k ≤ s.length) (n : Nat) (hn : k ≤ n) (h : s[n]? = some (.ml xs)) : leave k (.ok (.dict [(.int (n : Int), .none)]) s) = .ok (.dict [(.int (n : Int), .none)]) s := by
  show (match s[((n : Int)).toNat]? with
      | some (.ml xs) => if decide ((0 : Int) ≤ n) && decide (k ≤ ((n : Int)).toNat) then Res.ok _ s else .bad
      | _ => .bad) = _
  rw [dr_nat, h]
  exact if_pos (by rw [decide_eq_true (by omega : (0 : Int) ≤ n), decide_eq_true hn]; rfl)
theorem leave_exc {k : Nat} {c : Str} {s : Sto} : leave k (.exc c s) = .exc c (s.take k) := rfl
theorem leave_take {st s : Sto} {c : Str} (e : s.take st.length = st) : leave st.length (.exc c s) = .exc c st := by rw [leave_exc, e]
def Dr (i : Nat) (st : Sto) : Prop := ∃ a b : Int, st[i]? = some (.ml [.int a, .int b]) ∧ 0 ≤ b ∧ b < 4294967296
/-- from one store to another only the drum is turned -/
structure To (i : Nat) (st st' : Sto) : Prop where
  len : st'.length = st.length
  dr : Dr i st'
  same : ∀ j, j ≠ i → st'[j]? = st[j]?
theorem To.refl {i : Nat} {st : Sto} (h : Dr i st) : To i st st := ⟨rfl, h, fun _ _ => rfl⟩
theorem To.trans {i : Nat} {a b c : Sto} (h : To i a b) (h' : To i b c) : To i a c := ⟨h'.len.trans h.len, h'.dr, fun j hj => (h'.same j hj).trans (h.same j hj)⟩
theorem Dr.lt {i : Nat} {st : Sto} (h : Dr i st) : i < st.length := by
  obtain ⟨a, b, h, _⟩ := h
  exact (List.getElem?_eq_some_iff.mp h).1
theorem To.set {i : Nat} {st : Sto} (h : Dr i st) {a b : Int} (h0 : 0 ≤ b) (h1 : b < 4294967296) : To i st (st.set i (.ml [.int a, .int b])) := by
  refine ⟨List.length_set, ⟨a, b, ?_, h0, h1⟩, fun j hj => ?_⟩
  · rw [List.getElem?_set_self h.lt]
  · rw [List.getElem?_set_ne (Ne.symm hj)]
theorem To.take {i : Nat} {st st' : Sto} (h : To i st st') : st'.take st.length = st' := List.take_of_length_le (by rw [h.len]; exact Nat.le_refl _)
theorem lv_to {i : Nat} {st st' : Sto} {d : D} (h : To i st st') (hd : noref d = true) : leave st.length (.ok d st') = .ok d st' := by
  rw [lv hd, h.take]
theorem forGo_nil {f : D → Rho → Sto → Res Fl} {ρ : Rho} {st : Sto} : forGo [] f ρ st = .ok (.nx ρ) st := rfl
theorem forGo_cons {x : D} {xs : List D} {f : D → Rho → Sto → Res Fl} {ρ : Rho} {st : Sto} : forGo (x :: xs) f ρ st = (f x ρ st).bind fun fl s1 => match fl with
    | .nx ρ1 => forGo xs f ρ1 s1
    | .ct ρ1 => forGo xs f ρ1 s1
    | .bk ρ1 => .ok (.nx ρ1) s1
    | .rt d => .ok (.rt d) s1 := rfl
theorem compGo_nil {f : D → Sto → Res (List D)} {st : Sto} : compGo [] f st = .ok [] st := rfl
/-- a for, its invariant by the part already walked -/
theorem forGo_inv {α : Type} {emb : α → D} {f : D → Rho → Sto → Res Fl} {R : List α → Rho → Sto → Prop} {xs : List α} {ρ : Rho} {st : Sto} (h : ∀ pre x post, xs = pre ++ x :: post → ∀ ρ st, R pre ρ st → ∃ ρ' st', (f (emb x) ρ st = .ok (.nx ρ') st' ∨ f (emb x) ρ st = .ok (.ct ρ') st') ∧ R (pre ++ [x]) ρ' st') (r : R [] ρ st) :
    ∃ ρ' st', forGo (xs.map emb) f ρ st = .ok (.nx ρ') st' ∧ R xs ρ' st' := by
  have key : ∀ (post pre : List α), xs = pre ++ post → ∀ ρ st, R pre ρ st → ∃ ρ' st', forGo (post.map emb) f ρ st = .ok (.nx ρ') st' ∧ R xs ρ' st' := by
    intro post
    induction post with
    | nil =>
      intro pre e ρ st r
      rw [List.append_nil] at e
      rw [e]
      exact ⟨ρ, st, rfl, r⟩
    | cons x post ih =>
      intro pre e ρ st r
      obtain ⟨ρ1, st1, e1, r1⟩ := h pre x post e ρ st r
      obtain ⟨ρ2, st2, e2, r2⟩ := ih (pre ++ [x]) (by rw [e, List.append_assoc]; rfl) ρ1 st1 r1
      refine ⟨ρ2, st2, ?_, r2⟩
      show (f (emb x) ρ st).bind _ = _
      rcases e1 with e1 | e1
      · rw [e1]
        exact e2
      · rw [e1]
        exact e2
  exact key xs [] rfl ρ st r
/-- the same, no turn by continue -/
theorem forGo_invN {α : Type} {emb : α → D} {f : D → Rho → Sto → Res Fl} {R : List α → Rho → Sto → Prop} {xs : List α} {ρ : Rho} {st : Sto} (h : ∀ pre x post, xs = pre ++ x :: post → ∀ ρ st, R pre ρ st → ∃ ρ' st', f (emb x) ρ st = .ok (.nx ρ') st' ∧ R (pre ++ [x]) ρ' st') (r : R [] ρ st) :
    ∃ ρ' st', forGo (xs.map emb) f ρ st = .ok (.nx ρ') st' ∧ R xs ρ' st' := forGo_inv (fun pre x post e ρ st r => by
      obtain ⟨a, b, c, d⟩ := h pre x post e ρ st r
      exact ⟨a, b, .inl c, d⟩) r
/-- the same over data as they are -/
theorem forGo_invD {f : D → Rho → Sto → Res Fl} {R : List D → Rho → Sto → Prop} {xs : List D} {ρ : Rho} {st : Sto} (h : ∀ pre x post, xs = pre ++ x :: post → ∀ ρ st, R pre ρ st → ∃ ρ' st', (f x ρ st = .ok (.nx ρ') st' ∨ f x ρ st = .ok (.ct ρ') st') ∧ R (pre ++ [x]) ρ' st') (r : R [] ρ st) :
    ∃ ρ' st', forGo xs f ρ st = .ok (.nx ρ') st' ∧ R xs ρ' st' := by
  have := forGo_inv (emb := id) (xs := xs) (R := R) h r
  rwa [List.map_id] at this
theorem forGo_invDN {f : D → Rho → Sto → Res Fl} {R : List D → Rho → Sto → Prop} {xs : List D} {ρ : Rho} {st : Sto} (h : ∀ pre x post, xs = pre ++ x :: post → ∀ ρ st, R pre ρ st → ∃ ρ' st', f x ρ st = .ok (.nx ρ') st' ∧ R (pre ++ [x]) ρ' st') (r : R [] ρ st) :
    ∃ ρ' st', forGo xs f ρ st = .ok (.nx ρ') st' ∧ R xs ρ' st' := by
  have := forGo_invN (emb := id) (xs := xs) (R := R) h r
  rwa [List.map_id] at this
/-- a comprehension that may turn the drum: its length and what holds of each item -/
theorem compGo_to {i : Nat} {f : D → Sto → Res (List D)} {α : Type} {emb : α → D} {P : α → Prop} : ∀ {xs : List D} {st : Sto}, Dr i st → (∀ x ∈ xs, ∀ st, Dr i st → ∃ (y : α) (st' : Sto), f x st = .ok [emb y] st' ∧ P y ∧ To i st st') → ∃ (ys : List α) (st' : Sto), compGo xs f st = .ok (ys.map emb) st' ∧ ys.length = xs.length ∧ (∀ y ∈ ys, P y) ∧ To i st st'
  | [], st, hd, _ => ⟨[], st, rfl, rfl, fun _ h => absurd h List.not_mem_nil, .refl hd⟩
  | x :: xs, st, hd, h => by
    obtain ⟨y, st1, e1, p1, t1⟩ := h x (List.mem_cons_self ..) st hd
    obtain ⟨ys, st2, e2, l2, p2, t2⟩ := compGo_to t1.dr fun z hz => h z (List.mem_cons_of_mem _ hz)
    refine ⟨y :: ys, st2, ?_, by rw [List.length_cons, List.length_cons, l2], fun z hz => ?_, t1.trans t2⟩
    · simp only [compGo, e1, e2]
      rfl
    · rcases List.mem_cons.mp hz with rfl | hz
      · exact p1
      · exact p2 z hz
theorem fm_filter {α β : Type} {p : α → Bool} {f : α → β} : ∀ {xs : List α}, xs.flatMap (fun x => if p x = true then [f x] else []) = (xs.filter p).map f
  | [] => rfl
  | x :: xs => by
    rw [List.flatMap_cons, fm_filter (xs := xs), List.filter_cons]
    split <;> rfl
/-- a comprehension with an if -/
theorem compGo_filter {α : Type} {emb : α → D} {p : α → Bool} {h : α → D} {st : Sto} {f : D → Sto → Res (List D)} {xs : List α} (hf : ∀ x ∈ xs, f (emb x) st = .ok (if p x = true then [h x] else []) st) : compGo (xs.map emb) f st = .ok ((xs.filter p).map h) st := by
  rw [compGo_map (h := fun x => if p x = true then [h x] else []) hf, fm_filter]
theorem compGo_oneD {h : D → D} {st : Sto} {f : D → Sto → Res (List D)} {xs : List D} (hf : ∀ x ∈ xs, f x st = .ok [h x] st) : compGo xs f st = .ok (xs.map h) st := by
  have := compGo_map (emb := id) (h := fun x => [h x]) (xs := xs) hf
  rwa [List.map_id, fm_one] at this
theorem compGo_one {α : Type} {emb : α → D} {h : α → D} {st : Sto} {f : D → Sto → Res (List D)} {xs : List α} (hf : ∀ x ∈ xs, f (emb x) st = .ok [h x] st) : compGo (xs.map emb) f st = .ok (xs.map h) st := by
  rw [compGo_map (h := fun x => [h x]) hf, fm_one]
end MP
set_option Elab.async false
set_option linter.all false
set_option maxRecDepth 100000
set_option maxHeartbeats 1000000
namespace MP
open PySem PySem.Spec PyProof.Rows L2 LamX
section
variable {α β : Type}
def brT (r : Res Bool) (f g : Sto → Res α) : Res α := r.bind fun t s => match t with | true => f s | false => g s
theorem brT_t {s : Sto} {f g : Sto → Res α} : brT (.ok true s) f g = f s := (rfl)
theorem brT_f {s : Sto} {f g : Sto → Res α} : brT (.ok false s) f g = g s := (rfl)
theorem brT_x {s : Sto} {c : Str} {f g : Sto → Res α} : brT (.exc c s) f g = .exc c s := (rfl)
def obB (o : Option Rho) (f : Rho → Res α) : Res α := match o with | none => .bad | some ρ => f ρ
theorem obB_s {ρ : Rho} {f : Rho → Res α} : obB (some ρ) f = f ρ := (rfl)
def gdB (b : Bool) (r : Res α) : Res α := match b with | false => .bad | true => r
theorem gdB_t {r : Res α} : gdB true r = r := (rfl)
def andB (d : D) (s : Sto) (f : Sto → Res D) : Res D := match d with | .bool true => f s | .bool false => .ok (.bool false) s | _ => .bad
theorem andB_t {s : Sto} {f : Sto → Res D} : andB (.bool true) s f = f s := (rfl)
theorem andB_f {s : Sto} {f : Sto → Res D} : andB (.bool false) s f = .ok (.bool false) s := (rfl)
def orB (d : D) (s : Sto) (f : Sto → Res D) : Res D := match d with | .bool true => .ok (.bool true) s | .bool false => f s | _ => .bad
theorem orB_t {s : Sto} {f : Sto → Res D} : orB (.bool true) s f = .ok (.bool true) s := (rfl)
theorem orB_f {s : Sto} {f : Sto → Res D} : orB (.bool false) s f = f s := (rfl)
def c2B (o : Option Bool) (s : Sto) (f : Sto → Res D) : Res D := match o with | some true => f s | some false => .ok (.bool false) s | none => .bad
theorem c2B_t {s : Sto} {f : Sto → Res D} : c2B (some true) s f = f s := (rfl)
theorem c2B_f {s : Sto} {f : Sto → Res D} : c2B (some false) s f = .ok (.bool false) s := (rfl)
def seqB (G : Glb) (N : List Str) (n : Nat) (ss : List Stmt) (r : Res Fl) : Res Fl := r.bind fun fl s1 => (match fl with | .nx ρ1 => execB G N n ss ρ1 s1 | fl => .ok fl s1)
section
variable {G : Glb} {N : List Str} {n : Nat} {ss : List Stmt} {ρ : Rho} {s : Sto} {d : D}
theorem seq_nx : seqB G N n ss (.ok (.nx ρ) s) = execB G N n ss ρ s := (rfl)
theorem seq_rt : seqB G N n ss (.ok (.rt d) s) = .ok (.rt d) s := (rfl)
theorem seq_bk : seqB G N n ss (.ok (.bk ρ) s) = .ok (.bk ρ) s := (rfl)
theorem seq_ct : seqB G N n ss (.ok (.ct ρ) s) = .ok (.ct ρ) s := (rfl)
theorem seq_x {c : Str} : seqB G N n ss (.exc c s) = .exc c s := (rfl)
end
def hndB (G : Glb) (r : Res D) : Res D := match r with | .ok _ s1 => .ok (.str "") s1 | .exc c s1 => .lift (G.hnd c) s1 | .bad => .bad
theorem hnd_ok {G : Glb} {d : D} {s : Sto} : hndB G (.ok d s) = .ok (.str "") s := (rfl)
theorem hnd_x {G : Glb} {c : Str} {s : Sto} : hndB G (.exc c s) = .lift (G.hnd c) s := (rfl)
theorem bind_okR (a : α) (s : Sto) (f : α → Sto → Res β) : (Res.ok a s).bind f = f a s := (rfl)
theorem bind_excR (c : Str) (s : Sto) (f : α → Sto → Res β) : (Res.exc c s : Res α).bind f = .exc c s := (rfl)
theorem lift_someR (a : α) (s : Sto) : Res.lift (some a) s = .ok a s := (rfl)
def fgB (xs : List D) (f : D → Rho → Sto → Res Fl) (r : Res Fl) : Res Fl := r.bind fun fl s1 => match fl with
    | .nx ρ1 => forGo xs f ρ1 s1
    | .ct ρ1 => forGo xs f ρ1 s1
    | .bk ρ1 => .ok (.nx ρ1) s1
    | .rt d => .ok (.rt d) s1
section
variable {x d : D} {xs : List D} {f : D → Rho → Sto → Res Fl} {ρ : Rho} {s : Sto}
theorem v_forGo_nil : forGo [] f ρ s = .ok (.nx ρ) s := (rfl)
theorem v_forGo_cons : forGo (x :: xs) f ρ s = fgB xs f (f x ρ s) := (rfl)
theorem fg_nx : fgB xs f (.ok (.nx ρ) s) = forGo xs f ρ s := (rfl)
theorem fg_ct : fgB xs f (.ok (.ct ρ) s) = forGo xs f ρ s := (rfl)
theorem fg_bk : fgB xs f (.ok (.bk ρ) s) = .ok (.nx ρ) s := (rfl)
theorem fg_rt : fgB xs f (.ok (.rt d) s) = .ok (.rt d) s := (rfl)
end
end
section
variable {G : Glb} {N : List Str} {n : Nat} {ρ : Rho} {st : Sto} {o : Option D}
theorem v_x_name {x : Str} {pos : Pos} : evalE G N (n + 1) (.Name x pos) ρ st = (match slot N x with | some i => (match ρ[i]? with | some (some d) => frozen G pos d st | _ => .bad) | none => (match G.cst x with | some d => .ok d st | none => if G.isDef x then .ok (dgl x) st else .bad)) := (rfl)
theorem v_x_cst {c : Const} {k : Nat} {pos : Pos} : evalE G N (n + 1) (.Constant c k pos) ρ st = .lift (cst c) st := (rfl)
theorem v_x_tup {es : List Expr} {k : Nat} {pos : Pos} : evalE G N (n + 1) (.Tuple es k pos) ρ st = (evalL G N n es ρ st).bind fun ds s1 => .ok (.tuple ds) s1 := (rfl)
theorem v_x_list {es : List Expr} {pos : Pos} : evalE G N (n + 1) (.List es pos) ρ st = (evalL G N n es ρ st).bind fun ds s1 => alloc G pos ds s1 := (rfl)
theorem v_x_bin {a b : Expr} {op : Operator} {pos : Pos} : evalE G N (n + 1) (.BinOp a op b pos) ρ st = (evalE G N n a ρ st).bind fun x s1 => (evalE G N n b ρ s1).bind fun y s2 => opAt G pos op x y s2 := (rfl)
theorem v_x_bool {op : BoolOp} {es : List Expr} {pos : Pos} : evalE G N (n + 1) (.BoolOp op es pos) ρ st = evalB G N n op es ρ st := (rfl)
theorem v_x_cmp {a b : Expr} {op : CmpOp} {pos : Pos} : evalE G N (n + 1) (.Compare a [op] [b] pos) ρ st = (evalE G N n a ρ st).bind fun x s1 => (evalE G N n b ρ s1).bind fun y s2 => .lift ((cmpop op x (lookS op y s2)).map .bool) s2 := (rfl)
theorem v_x_slice {o : Expr} {lo hi : Option Expr} {p pos : Pos} : evalE G N (n + 1) (.Subscript o (.Slice lo hi none p) pos) ρ st = (evalE G N n o ρ st).bind fun x s1 => (evalO G N n lo ρ s1).bind fun l s2 => (evalO G N n hi ρ s2).bind fun h s3 => .lift (sliced x l h) s3 := (rfl)
theorem v_x_rev {o : Expr} {p1 p2 p3 pos : Pos} {k : Nat} : evalE G N (n + 1) (.Subscript o (.Slice none none (some (.UnaryOp .USub (.Constant (.int 1) k p1) p2)) p3) pos) ρ st = (evalE G N n o ρ st).bind fun x s1 => (match x with | .list xs => .ok (.list xs.reverse) s1 | .tuple xs => .ok (.tuple xs.reverse) s1 | _ => .bad) := (rfl)
theorem v_x_sub_name {o : Expr} {pos : Pos} {z : Str} {p : Pos} : evalE G N (n + 1) (.Subscript o (.Name z p) pos) ρ st = (evalE G N n o ρ st).bind fun x s1 => (evalE G N n (.Name z p) ρ s1).bind fun y s2 => .lift (item x y s2) s2 := (rfl)
theorem v_x_sub_cst {o : Expr} {pos : Pos} {c : Const} {k : Nat} {p : Pos} : evalE G N (n + 1) (.Subscript o (.Constant c k p) pos) ρ st = (evalE G N n o ρ st).bind fun x s1 => (evalE G N n (.Constant c k p) ρ s1).bind fun y s2 => .lift (item x y s2) s2 := (rfl)
theorem v_x_sub_bin {o : Expr} {pos : Pos} {a b : Expr} {op : Operator} {p : Pos} : evalE G N (n + 1) (.Subscript o (.BinOp a op b p) pos) ρ st = (evalE G N n o ρ st).bind fun x s1 => (evalE G N n (.BinOp a op b p) ρ s1).bind fun y s2 => .lift (item x y s2) s2 := (rfl)
theorem v_x_sub_un {o : Expr} {pos : Pos} {a : Expr} {op : UnaryOp} {p : Pos} : evalE G N (n + 1) (.Subscript o (.UnaryOp op a p) pos) ρ st = (evalE G N n o ρ st).bind fun x s1 => (evalE G N n (.UnaryOp op a p) ρ s1).bind fun y s2 => .lift (item x y s2) s2 := (rfl)
theorem v_x_sub_call {o : Expr} {pos : Pos} {a : Expr} {as : List Expr} {ks : List Keyword} {p : Pos} : evalE G N (n + 1) (.Subscript o (.Call a as ks p) pos) ρ st = (evalE G N n o ρ st).bind fun x s1 => (evalE G N n (.Call a as ks p) ρ s1).bind fun y s2 => .lift (item x y s2) s2 := (rfl)
theorem v_x_sub_sub {o : Expr} {pos : Pos} {a b : Expr} {p : Pos} : evalE G N (n + 1) (.Subscript o (.Subscript a b p) pos) ρ st = (evalE G N n o ρ st).bind fun x s1 => (evalE G N n (.Subscript a b p) ρ s1).bind fun y s2 => .lift (item x y s2) s2 := (rfl)
theorem v_l_nil  : evalL G N (n + 1) [] ρ st = .ok [] st := (rfl)
theorem v_l_cons {e : Expr} {es : List Expr} : evalL G N (n + 1) (e :: es) ρ st = (evalE G N n e ρ st).bind fun d s1 => (evalL G N n es ρ s1).bind fun ds s2 => .ok (d :: ds) s2 := (rfl)
theorem v_b_one {e : Expr} {op : BoolOp} : evalB G N (n + 1) op [e] ρ st = evalE G N n e ρ st := (rfl)
theorem v_o_none  : evalO G N (n + 1) none ρ st = .ok none st := (rfl)
theorem v_o_some {e : Expr} : evalO G N (n + 1) (some e) ρ st = (evalE G N n e ρ st).bind fun d s1 => match d with | .int i => .ok (some i) s1 | _ => .bad := (rfl)
theorem v_f_nil  : evalIf G N (n + 1) [] ρ st = .ok true st := (rfl)
theorem v_f_one {e : Expr} : evalIf G N (n + 1) [e] ρ st = evalT G N n e ρ st := (rfl)
theorem v_i_call1 {f : Str} {p pos : Pos} {a : Expr} : evalI G N (n + 1) (.Call (.Name f p) [a] [] pos) ρ st = (if f = "range" then (evalE G N n a ρ st).bind fun x s1 => (match x with
        | .int j => if rngOk 0 j then .ok (rngL 0 j) s1 else .bad
        | _ => .bad)
      else if f = "enumerate" then (evalE G N n a ρ st).bind fun x s1 => (match asSeq x with
        | some xs => .ok (enumL xs) s1
        | none => .bad)
      else (evalE G N n (.Call (.Name f p) [a] [] pos) ρ st).bind fun x s1 => .lift (asIt x) s1) := (rfl)
theorem v_i_call2 {f : Str} {p pos : Pos} {a b : Expr} : evalI G N (n + 1) (.Call (.Name f p) [a, b] [] pos) ρ st = (if f = "range" then (evalE G N n a ρ st).bind fun x s1 => (evalE G N n b ρ s1).bind fun y s2 => (match x, y with
        | .int i, .int j => if rngOk i j then .ok (rngL i j) s2 else .bad
        | _, _ => .bad)
      else if f = "zip" then (evalE G N n a ρ st).bind fun x s1 => (evalE G N n b ρ s1).bind fun y s2 => (match asSeq x, asSeq y with
        | some xs, some ys => .ok (zipL xs ys) s2
        | _, _ => .bad)
      else (evalE G N n (.Call (.Name f p) [a, b] [] pos) ρ st).bind fun x s1 => .lift (asIt x) s1) := (rfl)
theorem v_i_name {z : Str} {p : Pos} : evalI G N (n + 1) (.Name z p) ρ st = (evalE G N n (.Name z p) ρ st).bind fun x s1 => .lift (asIt x) s1 := (rfl)
theorem v_i_sub {a b : Expr} {p : Pos} : evalI G N (n + 1) (.Subscript a b p) ρ st = (evalE G N n (.Subscript a b p) ρ st).bind fun x s1 => .lift (asIt x) s1 := (rfl)
theorem v_i_bin {a b : Expr} {op : Operator} {p : Pos} : evalI G N (n + 1) (.BinOp a op b p) ρ st = (evalE G N n (.BinOp a op b p) ρ st).bind fun x s1 => .lift (asIt x) s1 := (rfl)
theorem v_i_tup {as : List Expr} {k : Nat} {p : Pos} : evalI G N (n + 1) (.Tuple as k p) ρ st = (evalE G N n (.Tuple as k p) ρ st).bind fun x s1 => .lift (asIt x) s1 := (rfl)
theorem v_i_list {as : List Expr} {p : Pos} : evalI G N (n + 1) (.List as p) ρ st = (evalE G N n (.List as p) ρ st).bind fun x s1 => .lift (asIt x) s1 := (rfl)
theorem v_i_comp {a : Expr} {gs : List Comprehension} {sc : Scope} {p : Pos} : evalI G N (n + 1) (.ListComp a gs sc p) ρ st = (evalE G N n (.ListComp a gs sc p) ρ st).bind fun x s1 => .lift (asIt x) s1 := (rfl)
theorem v_i_ife {a b c : Expr} {p : Pos} : evalI G N (n + 1) (.IfExp a b c p) ρ st = (evalE G N n (.IfExp a b c p) ρ st).bind fun x s1 => .lift (asIt x) s1 := (rfl)
theorem v_i_meth {a : Expr} {m : Str} {as : List Expr} {p p2 : Pos} : evalI G N (n + 1) (.Call (.Attribute a m p2) as [] p) ρ st = (evalE G N n (.Call (.Attribute a m p2) as [] p) ρ st).bind fun x s1 => .lift (asIt x) s1 := (rfl)
theorem v_i_call0 {f : Str} {p p2 : Pos} : evalI G N (n + 1) (.Call (.Name f p2) [] [] p) ρ st = (evalE G N n (.Call (.Name f p2) [] [] p) ρ st).bind fun x s1 => .lift (asIt x) s1 := (rfl)
theorem v_i_call3 {f : Str} {a b c : Expr} {as : List Expr} {p p2 : Pos} : evalI G N (n + 1) (.Call (.Name f p2) (a :: b :: c :: as) [] p) ρ st = (evalE G N n (.Call (.Name f p2) (a :: b :: c :: as) [] p) ρ st).bind fun x s1 => .lift (asIt x) s1 := (rfl)
theorem v_s_pass {p : Pos} : execS G N (n + 1) (.Pass p) ρ st = .ok (.nx ρ) st := (rfl)
theorem v_s_cont {p : Pos} : execS G N (n + 1) (.Continue p) ρ st = .ok (.ct ρ) st := (rfl)
theorem v_s_brk {p : Pos} : execS G N (n + 1) (.Break p) ρ st = .ok (.bk ρ) st := (rfl)
theorem v_s_ret {e : Expr} {p : Pos} : execS G N (n + 1) (.Return (some e) p) ρ st = (evalE G N n e ρ st).bind fun d s1 => .ok (.rt d) s1 := (rfl)
theorem v_s_ret0 {p : Pos} : execS G N (n + 1) (.Return none p) ρ st = .ok (.rt .none) st := (rfl)
theorem v_s_expr {e : Expr} {p : Pos} : execS G N (n + 1) (.Expr e p) ρ st = (evalE G N n e ρ st).bind fun _ s1 => .ok (.nx ρ) s1 := (rfl)
theorem v_s_asgTT {ts vs : List Expr} {k j : Nat} {p p1 p2 : Pos} : execS G N (n + 1) (.Assign [.Tuple ts k p1] (.Tuple vs j p2) p) ρ st = (evalL G N n vs ρ st).bind fun ds s1 => (match bindN N ts ds ρ with | some ρ1 => .ok (.nx ρ1) s1 | none => .bad) := (rfl)
theorem v_s_asgS {o i e : Expr} {p p1 : Pos} : execS G N (n + 1) (.Assign [.Subscript o i p1] e p) ρ st = (evalE G N n e ρ st).bind fun v s1 => (evalE G N n o ρ s1).bind fun x s2 => (evalE G N n i ρ s2).bind fun y s3 => (match putItem x y v s3 with | some s4 => .ok (.nx ρ) s4 | none => .bad) := (rfl)
theorem v_s_asgN {x : Str} {e : Expr} {p p1 : Pos} : execS G N (n + 1) (.Assign [.Name x p1] e p) ρ st = (evalE G N n e ρ st).bind fun d s1 => (match bindT N (.Name x p1) d ρ with | some ρ1 => .ok (.nx ρ1) s1 | none => .bad) := (rfl)
theorem v_s_asgT_name {ts : List Expr} {k : Nat} {p p1 : Pos} {z : Str} {p0 : Pos} : execS G N (n + 1) (.Assign [.Tuple ts k p1] (.Name z p0) p) ρ st = (evalE G N n (.Name z p0) ρ st).bind fun d s1 => (match bindT N (.Tuple ts k p1) d ρ with | some ρ1 => .ok (.nx ρ1) s1 | none => .bad) := (rfl)
theorem v_s_asgT_call {ts : List Expr} {k : Nat} {p p1 : Pos} {a : Expr} {as : List Expr} {ks : List Keyword} {p0 : Pos} : execS G N (n + 1) (.Assign [.Tuple ts k p1] (.Call a as ks p0) p) ρ st = (evalE G N n (.Call a as ks p0) ρ st).bind fun d s1 => (match bindT N (.Tuple ts k p1) d ρ with | some ρ1 => .ok (.nx ρ1) s1 | none => .bad) := (rfl)
theorem v_s_asgT_sub {ts : List Expr} {k : Nat} {p p1 : Pos} {a b : Expr} {p0 : Pos} : execS G N (n + 1) (.Assign [.Tuple ts k p1] (.Subscript a b p0) p) ρ st = (evalE G N n (.Subscript a b p0) ρ st).bind fun d s1 => (match bindT N (.Tuple ts k p1) d ρ with | some ρ1 => .ok (.nx ρ1) s1 | none => .bad) := (rfl)
theorem v_s_asgT_bin {ts : List Expr} {k : Nat} {p p1 : Pos} {a b : Expr} {op : Operator} {p0 : Pos} : execS G N (n + 1) (.Assign [.Tuple ts k p1] (.BinOp a op b p0) p) ρ st = (evalE G N n (.BinOp a op b p0) ρ st).bind fun d s1 => (match bindT N (.Tuple ts k p1) d ρ with | some ρ1 => .ok (.nx ρ1) s1 | none => .bad) := (rfl)
theorem v_s_asgT_comp {ts : List Expr} {k : Nat} {p p1 : Pos} {a : Expr} {gs : List Comprehension} {sc : Scope} {p0 : Pos} : execS G N (n + 1) (.Assign [.Tuple ts k p1] (.ListComp a gs sc p0) p) ρ st = (evalE G N n (.ListComp a gs sc p0) ρ st).bind fun d s1 => (match bindT N (.Tuple ts k p1) d ρ with | some ρ1 => .ok (.nx ρ1) s1 | none => .bad) := (rfl)
theorem v_s_asgT_ife {ts : List Expr} {k : Nat} {p p1 : Pos} {a b c : Expr} {p0 : Pos} : execS G N (n + 1) (.Assign [.Tuple ts k p1] (.IfExp a b c p0) p) ρ st = (evalE G N n (.IfExp a b c p0) ρ st).bind fun d s1 => (match bindT N (.Tuple ts k p1) d ρ with | some ρ1 => .ok (.nx ρ1) s1 | none => .bad) := (rfl)
theorem v_s_raise {c : Str} {cc : Const} {k : Nat} {p p1 p2 p3 : Pos} : execS G N (n + 1) (.Raise (some (.Call (.Name c p1) [.Constant cc k p2] [] p3)) none p) ρ st = (match slot N c with | none => .exc c st | some _ => .bad) := (rfl)
theorem v_bb_nil  : execB G N (n + 1) [] ρ st = .ok (.nx ρ) st := (rfl)
theorem v_x_not {a : Expr} {pos : Pos} : evalE G N (n + 1) (.UnaryOp .Not a pos) ρ st = (evalE G N n a ρ st).bind fun x s1 => (match x with | .bool b => .ok (.bool (!b)) s1 | _ => .bad) := (rfl)
theorem v_x_neg {a : Expr} {pos : Pos} : evalE G N (n + 1) (.UnaryOp .USub a pos) ρ st = (evalE G N n a ρ st).bind fun x s1 => (match x with | .int i => .ok (.int (-i)) s1 | _ => .bad) := (rfl)
theorem v_t_def {e : Expr} : evalT G N (n + 1) e ρ st = (evalE G N n e ρ st).bind fun d s1 => match d with | .bool b => .ok b s1 | _ => .bad := (rfl)
theorem v_x_cmp2 {a b c : Expr} {op op' : CmpOp} {pos : Pos} : evalE G N (n + 1) (.Compare a [op, op'] [b, c] pos) ρ st = (evalE G N n a ρ st).bind fun x s1 => (evalE G N n b ρ s1).bind fun y s2 => c2B (cmpop op x y) s2 (fun s2 => (evalE G N n c ρ s2).bind fun z s3 => .lift ((cmpop op' y z).map .bool) s3) := (rfl)
theorem v_x_if {a b c : Expr} {pos : Pos} : evalE G N (n + 1) (.IfExp c a b pos) ρ st = brT (evalT G N n c ρ st) (fun s1 => evalE G N n a ρ s1) (fun s1 => evalE G N n b ρ s1) := (rfl)
theorem v_b_and {e e' : Expr} {es : List Expr} : evalB G N (n + 1) .And (e :: e' :: es) ρ st = (evalE G N n e ρ st).bind fun d s1 => andB d s1 (fun s1 => evalB G N n .And (e' :: es) ρ s1) := b_and
theorem v_b_or {e e' : Expr} {es : List Expr} : evalB G N (n + 1) .Or (e :: e' :: es) ρ st = (evalE G N n e ρ st).bind fun d s1 => orB d s1 (fun s1 => evalB G N n .Or (e' :: es) ρ s1) := b_or
theorem v_s_if {c : Expr} {a b : List Stmt} {p : Pos} : execS G N (n + 1) (.If c a b p) ρ st = brT (evalT G N n c ρ st) (fun s1 => execB G N n a ρ s1) (fun s1 => execB G N n b ρ s1) := (rfl)
theorem v_bb_cons {s : Stmt} {ss : List Stmt} : execB G N (n + 1) (s :: ss) ρ st = seqB G N n ss (execS G N n s ρ st) := (rfl)
theorem v_s_for {tg it : Expr} {a : List Stmt} {p : Pos} : execS G N (n + 1) (.For tg it a [] p) ρ st = (evalI G N n it ρ st).bind fun xs s1 => forGo xs (forZ G N n tg a) ρ s1 := (rfl)
theorem v_ff_cons {tg : Expr} {a : List Stmt} {x : D} : forZ G N n tg a x (o :: ρ) st = obB (bindT N tg x (o :: ρ)) (fun ρ1 => execB G N n a ρ1 st) := by
  unfold forZ obB
  rfl
theorem v_s_while {c : Expr} {a : List Stmt} {p : Pos} : execS G N (n + 1) (.While c a [] p) ρ st = whGo WF (whC G N n c) (restB G N n a) ρ st := (rfl)
theorem v_wc_cons {c : Expr} : whC G N n c (o :: ρ) st = evalT G N n c (o :: ρ) st := (rfl)
theorem v_rb_cons {ss : List Stmt} : restB G N n ss (o :: ρ) st = execB G N n ss (o :: ρ) st := (rfl)
def cpZ (G : Glb) (N : List Str) (n : Nat) (elt tg : Expr) (ifs : List Expr) (ρ0 : Rho) (x : D) (s : Sto) : Res (List D) := obB (bindT N tg x ρ0) (fun ρ1 => brT (evalIf G N n ifs ρ1 s) (fun s2 => (evalE G N n elt ρ1 s2).bind fun d s3 => .ok [d] s3) (fun s2 => .ok [] s2))
theorem v_compF {elt tg : Expr} {ifs : List Expr} {x : D} {s : Sto} : cpZ G N n elt tg ifs (o :: ρ) x s = obB (bindT N tg x (o :: ρ)) (fun ρ1 => brT (evalIf G N n ifs ρ1 s) (fun s2 => (evalE G N n elt ρ1 s2).bind fun d s3 => .ok [d] s3) (fun s2 => .ok [] s2)) := (rfl)
theorem v_x_compZ {elt tg it : Expr} {ifs : List Expr} {sc : Scope} {pos : Pos} : evalE G N (n + 1) (.ListComp elt [⟨tg, it, ifs, 0⟩] sc pos) ρ st = (evalI G N n it ρ st).bind fun xs s1 => (compZ (rzC G N elt ifs sc) xs (cpZ G N n elt tg ifs (wip ρ ((ownSl N sc).map (·.2)))) s1).bind fun ds s4 => .ok (.list ds) s4 := by
  rw [x_comp]
  congr 1
  funext xs s1
  congr 2
  funext x s
  unfold cpZ obB brT
  cases bindT N tg x (wip ρ ((ownSl N sc).map (·.2))) with
  | none => rfl
  | some ρ1 =>
    dsimp only
    congr 1
    funext b s2
    cases b <;> rfl
/-- the step raises nothing -/
theorem v_x_comp {elt tg it : Expr} {ifs : List Expr} {sc : Scope} {pos : Pos} (h : rzS elt ifs = false) : evalE G N (n + 1) (.ListComp elt [⟨tg, it, ifs, 0⟩] sc pos) ρ st = (evalI G N n it ρ st).bind fun xs s1 => (compGo xs (cpZ G N n elt tg ifs (wip ρ ((ownSl N sc).map (·.2)))) s1).bind fun ds s4 => .ok (.list ds) s4 := by
  rw [v_x_compZ]
  unfold rzC
  rw [h]
  rfl
theorem v_x_compB {f x : Str} {p q cp : Pos} {tg it : Expr} {sc : Scope} {pos : Pos} (h : G.isDef f = false) : evalE G N (n + 1) (.ListComp (.Call (.Name f p) [.Name x q] [] cp) [⟨tg, it, [], 0⟩] sc pos) ρ st = (evalI G N n it ρ st).bind fun xs s1 => (compGo xs (cpZ G N n (.Call (.Name f p) [.Name x q] [] cp) tg [] (wip ρ ((ownSl N sc).map (·.2)))) s1).bind fun ds s4 => .ok (.list ds) s4 := by
  rw [v_x_compZ]
  unfold rzC rzD
  dsimp only
  rw [h]
  rfl
theorem v_x_compV {f x : Str} {p q cp : Pos} {tg it : Expr} {sc : Scope} {pos : Pos} (h : (slot N f).isNone = false) : evalE G N (n + 1) (.ListComp (.Call (.Name f p) [.Name x q] [] cp) [⟨tg, it, [], 0⟩] sc pos) ρ st = (evalI G N n it ρ st).bind fun xs s1 => (compGo xs (cpZ G N n (.Call (.Name f p) [.Name x q] [] cp) tg [] (wip ρ ((ownSl N sc).map (·.2)))) s1).bind fun ds s4 => .ok (.list ds) s4 := by
  rw [v_x_compZ]
  unfold rzC rzD
  dsimp only
  rw [h]
  simp only [Bool.and_false, Bool.false_and]
  rfl
/-- the step may raise -/
theorem v_x_compX {f x : Str} {p q cp : Pos} {tg it : Expr} {sc : Scope} {pos : Pos} (h : slot N f = none) (h1 : G.isHnd f = false) (h2 : G.isDef f = true) (h3 : (slot N x).isSome = true) (h4 : nofree sc = true) : evalE G N (n + 1) (.ListComp (.Call (.Name f p) [.Name x q] [] cp) [⟨tg, it, [], 0⟩] sc pos) ρ st = (evalI G N n it ρ st).bind fun xs s1 => (compGoX xs (cpZ G N n (.Call (.Name f p) [.Name x q] [] cp) tg [] (wip ρ ((ownSl N sc).map (·.2)))) s1).bind fun ds s4 => .ok (.list ds) s4 := by
  rw [v_x_compZ]
  unfold rzC rzD
  dsimp only
  rw [h, h1, h2, h3, h4]
  rfl
theorem v_x_comp2 {elt tg it tg1 it1 : Expr} {ifs ifs1 : List Expr} {sc : Scope} {pos : Pos} : evalE G N (n + 1) (.ListComp elt [⟨tg, it, ifs, 0⟩, ⟨tg1, it1, ifs1, 0⟩] sc pos) ρ st = (evalI G N n it ρ st).bind fun xs s1 => (compGo xs (fun x s => obB (bindT N tg x (wip ρ ((ownSl N sc).map (·.2)))) (fun ρ1 => brT (evalIf G N n ifs ρ1 s) (fun s2 => (evalI G N n it1 ρ1 s2).bind fun ys s3 => compGo ys (cpZ G N n elt tg1 ifs1 ρ1) s3) (fun s2 => .ok [] s2))) s1).bind fun ds s4 => .ok (.list ds) s4 := by
  rw [x_comp2]
  congr 1
  funext xs s1
  congr 2
  funext x s
  unfold obB
  cases bindT N tg x (wip ρ ((ownSl N sc).map (·.2))) with
  | none => rfl
  | some ρ1 =>
    unfold brT
    dsimp only
    congr 1
    funext b s2
    cases b with
    | false => rfl
    | true =>
      dsimp only
      congr 1
      funext ys s3
      congr 1
      funext y t
      unfold cpZ obB brT
      cases bindT N tg1 y ρ1 with
      | none => rfl
      | some ρ2 =>
        dsimp only
        congr 1
        funext b s2
        cases b <;> rfl
theorem v_x_meth {o : Expr} {m : Str} {args : List Expr} {p pos : Pos} : evalE G N (n + 1) (.Call (.Attribute o m p) args [] pos) ρ st = (evalE G N n o ρ st).bind fun x s1 => gdB (rcv m x s1) ((evalL G N n args ρ s1).bind fun ds s2 => if m = "append" then (match ds with | [v] => (match appItem x v s2 with | some s3 => .ok .none s3 | none => .bad) | _ => .bad) else .lift (meth m (cntS m x s2) ds) s2) := by
  rw [x_meth]
  congr 1
theorem cnt_l {m : Str} {xs : List D} {st : Sto} : cntS m (.list xs) st = .list xs := by
  unfold cntS
  split <;> rfl
theorem cnt_s {m : Str} {s : Str} {st : Sto} : cntS m (.str s) st = .str s := by
  unfold cntS
  split <;> rfl
def slC (o : Option (Option D)) (F : Str → Res D) : Res D := match o with | some (some (.dict [(.str g, .none)])) => F g | _ => .bad
theorem slC_g {g : Str} {F : Str → Res D} : slC (some (some (.dict [(.str g, .none)]))) F = F g := (rfl)
def slB (o : Option Nat) (ρ : Rho) (F : Str → Res D) : Res D := match o with | some i => slC ρ[i]? F | none => .bad
theorem slB_s {i : Nat} {F : Str → Res D} : slB (some i) ρ F = slC ρ[i]? F := (rfl)
theorem v_callV {f : Str} {args : List Expr} {p pos : Pos} (h : (slot N f).isNone = false) : evalE G N (n + 1) (.Call (.Name f p) args [] pos) ρ st = slB (slot N f) ρ (fun g => gdB (G.isDef g) ((evalL G N n args ρ st).bind fun ds s1 => G.call g ds s1)) := by
  rw [x_call]
  cases e : slot N f with
  | none =>
    rw [e] at h
    cases h
  | some i =>
    unfold slB slC gdB
    dsimp only
    split
    · rename_i g hg
      first
        | (rw [hg]; dsimp only; cases G.isDef g <;> rfl)
        | (cases G.isDef g <;> rfl)
    · rename_i hn
      first
        | rfl
        | (split <;> first | rfl | (rename_i g hg; exact (hn g hg).elim))
theorem v_callD {f : Str} {args : List Expr} {p pos : Pos} (h : slot N f = none) (h1 : G.isHnd f = false) (h2 : G.isDef f = true) : evalE G N (n + 1) (.Call (.Name f p) args [] pos) ρ st = (evalL G N n args ρ st).bind fun ds s1 => G.call f ds s1 := by
  rw [x_call, h]
  dsimp only
  rw [h1, h2]
  rfl
theorem v_callH {f : Str} {p pos pl : Pos} {ag : Arguments} {body : Expr} {sc : Scope} (h : slot N f = none) (h1 : G.isHnd f = true) : evalE G N (n + 1) (.Call (.Name f p) [.Lambda ag body sc pl] [] pos) ρ st = hndB G (evalE G.noH N n body ρ st) := by
  rw [x_call, h]
  dsimp only
  rw [h1]
  unfold hndB
  rfl
theorem v_callI {a : Expr} {t : Str} {p p2 pos : Pos} (h : slot N "isinstance" = none) (h1 : G.isHnd "isinstance" = false) (h2 : G.isDef "isinstance" = false) (hX : G.isX "isinstance" = false) (hC : G.isCls t = false) : evalE G N (n + 1) (.Call (.Name "isinstance" p) [a, .Name t p2] [] pos) ρ st = (evalE G N n a ρ st).bind fun x s1 => .lift ((isKind x t).map .bool) s1 := by
  rw [x_call, h]
  dsimp only
  rw [h1, h2, hX, hC]
  rfl
theorem v_callS {a : Expr} {p p2 p3 pos : Pos} (h : slot N "sorted" = none) (h1 : G.isHnd "sorted" = false) (h2 : G.isDef "sorted" = false) (hX : G.isX "sorted" = false) : evalE G N (n + 1) (.Call (.Name "sorted" p) [.Call (.Name "set" p2) [a] [] p3] [] pos) ρ st = (evalE G N n a ρ st).bind fun x s1 => .lift (sortSet x) s1 := by
  rw [x_call, h]
  dsimp only
  rw [h1, h2, hX]
  rfl
theorem v_callB {f : Str} {args : List Expr} {p pos : Pos} (h : slot N f = none) (h1 : G.isHnd f = false) (h2 : G.isDef f = false) (hX : G.isX f = false) (h3 : decide (f = "isinstance") = false) (h4 : decide (f = "sorted") = false) : evalE G N (n + 1) (.Call (.Name f p) args [] pos) ρ st = (evalL G N n args ρ st).bind fun ds s1 => .lift (bi f ds) s1 := by
  rw [x_call, h]
  dsimp only
  rw [h1, h2, hX]
  exact (if_neg Bool.false_ne_true).trans ((if_neg Bool.false_ne_true).trans ((if_neg Bool.false_ne_true).trans ((if_neg (of_decide_eq_false h3)).trans (if_neg (of_decide_eq_false h4)))))
theorem v_callX {f : Str} {args : List Expr} {p pos : Pos} (h : slot N f = none) (h1 : G.isHnd f = false) (h2 : G.isDef f = false) (h3 : G.isX f = true) : evalE G N (n + 1) (.Call (.Name f p) args [] pos) ρ st = (evalL G N n args ρ st).bind fun ds s1 => .lift (G.xap f ds) s1 := by
  rw [x_call, h]
  dsimp only
  rw [h1, h2, h3]
  rfl
theorem v_callIx {a : Expr} {t : Str} {p p2 pos : Pos} (h : slot N "isinstance" = none) (h1 : G.isHnd "isinstance" = false) (h2 : G.isDef "isinstance" = false) (hX : G.isX "isinstance" = false) (hC : G.isCls t = true) : evalE G N (n + 1) (.Call (.Name "isinstance" p) [a, .Name t p2] [] pos) ρ st = (evalE G N n a ρ st).bind fun x s1 => .lift ((isEx G.isub t x).map .bool) s1 := by
  rw [x_call, h]
  dsimp only
  rw [h1, h2, hX, hC]
  rfl
theorem v_attr {o : Expr} {a : Str} {p : Pos} (h : G.isAt a = true) : evalE G N (n + 1) (.Attribute o a p) ρ st = (evalE G N n o ρ st).bind fun x s1 => .lift (G.atf a x) s1 := by
  show (match G.isAt a with
      | true => (evalE G N n o ρ st).bind fun x s1 => .lift (G.atf a x) s1
      | false => .bad) = _
  rw [h]
theorem v_wip_nil : wip ρ [] = ρ := (rfl)
theorem v_wip_cons {v : Nat} {vs : List Nat} : wip ρ (v :: vs) = (wip ρ vs).set v none := (rfl)
theorem v_bT_name {x : Str} {p : Pos} {d : D} : bindT N (.Name x p) d ρ = (slot N x).map fun i => ρ.set i (some d) := (rfl)
theorem v_bT_tup {es : List Expr} {k : Nat} {p : Pos} {ds : List D} : bindT N (.Tuple es k p) (.tuple ds) ρ = bindN N es ds ρ := (rfl)
theorem v_bT_lst {es : List Expr} {k : Nat} {p : Pos} {ds : List D} : bindT N (.Tuple es k p) (.list ds) ρ = bindN N es ds ρ := (rfl)
theorem v_bN_nil : bindN N [] [] ρ = some ρ := (rfl)
theorem v_bN_cons {x : Str} {p : Pos} {es : List Expr} {d : D} {ds : List D} : bindN N (.Name x p :: es) (d :: ds) ρ = (match slot N x with | some i => bindN N es ds (ρ.set i (some d)) | none => none) := (rfl)
theorem v_g_call {M : Mdl} {k : Nat} : (M.at k).call = callK M k := (rfl)
theorem v_g_callN : G.noH.call = G.call := (rfl)
theorem v_g_hnd {M : Mdl} {k : Nat} : (M.at k).hnd = M.g.hnd := (rfl)
end
end MP
set_option Elab.async false
set_option linter.all false
set_option maxRecDepth 100000
set_option maxHeartbeats 1000000
namespace MP
open PySem PySem.Spec PyProof.Rows L2 LamX
section
variable {P : Program} {w : World} {K : PySem.W.Frag} {mg : MG} {base : Heap} {T : List (Addr × Str)}
/-- X("m") -/
def apEx (f : Str) : List D → Option D
  | [.str z] => some (.dict [(.str f, .str z)])
  | _ => none
/-- TooMany(i) -/
def apTm (f : Str) : List D → Option D
  | [.int i] => some (.dict [(.str f, .int i)])
  | _ => none
/-- str(e) -/
def apSt (cs : List Str) : List D → Option D
  | [.dict [(.str c, .str z)]] => if c ∈ cs then some (.str z) else none
  | _ => none
/-- e.limit -/
def atLm (f : Str) : D → Option D
  | .dict [(.str c, .int i)] => if c = f then some (.int i) else none
  | _ => none
theorem xr_exc {f : Str} {C : Addr} {bmB : List Value} {B newId initId : String} (F : ExcBaseFacts B newId initId bmB) (q : PySem.W.excIn K C bmB newId = true) (gC : mg f = some (.ref C)) (kC : PySem.W.keepIn K (.ref C) = true) : XR P w K mg base T f (apEx f) := by
  intro X E e es rl p pos h1 h2 h3 h4 h5 tk rm hc hu hg hdb hs hA
  subst h1 h2 h3 h4 h5
  simp only [List.all_cons, Bool.and_eq_true] at hs
  refine PE.mono (pe_exv F q gC kC hg hdb hA (star_cons hs.1) (star_any hs.2)) fun σ H Q h => ?_
  obtain ⟨m, ρ, st, R, w⟩ := h
  refine ⟨m, ρ, st, R, w.bind.imp fun ds m1 s1 H1 R1 E1 w1 vs rvs => ?_⟩
  obtain ⟨d, e, w1⟩ := w1.lift
  unfold apEx at e
  split at e
  · rename_i z
    cases e
    obtain ⟨v, rfl, rv⟩ := vs1 rvs
    cases rv
    refine ⟨z, rfl, fun a t ha ht hne => ?_⟩
    have R2 := R1.upd (o := .tup [.str z]) ht
    have ha2 : L2.upd H1 t (.tup [.str z]) a = none := by rw [upd_ne (Ne.symm hne)]; exact ha
    have R3 := R2.upd (o := exm a C t) ha2
    refine w1 m1 _ R3 ((R1.ext_upd ht).trans (R2.ext_upd ha2)) _ (.ex gC upd_same (by rw [upd_ne hne]; exact upd_same) (R1.fresh ha) (R1.fresh ht))
  · cases e
theorem upd3 {H : Hp} {a b : Addr} {o o' u : HO} (h : b ≠ a) : upd (upd (upd H a o) b u) a o' = upd (upd H b u) a o' := by
  funext c
  by_cases hc : c = a
  · rw [hc, upd_same, upd_same]
  · rw [upd_ne hc, upd_ne hc]
    by_cases hb : c = b
    · rw [hb, upd_same, upd_same]
    · rw [upd_ne hb, upd_ne hb, upd_ne hc]
theorem xr_tm {f : Str} {C fI : Addr} {fd : FuncData} (O : OexC K C) (iC : PySem.W.findIn K (.ref C) "__init__" = some (some (.ref fI))) (tI : PySem.W.typeIn K (.ref fI) = some (.type "function"))
    (F1 : FnOk P w K mg base (L2N.CX P w) 1 fI fd ["self", "limit"] (spTm C)) (hb : Binds K fd ["self", "limit"] []) (gC : mg f = some (.ref C)) : XR P w K mg base T f (apTm f) := by
  intro X E e es rl p pos h1 h2 h3 h4 h5 tk rm hc hu hg hdb hs hA
  subst h1 h2 h3 h4 h5
  simp only [List.all_cons, Bool.and_eq_true] at hs
  have hx : Passes (L2N.CX X.prog X.w) X (fun _ _ _ => False) := L2N.passes_call tk fun _ _ _ _ h => h.elim
  refine PE.mono (pe_tm (k := 1) O iC tI F1 rm hb hx hg gC hA hdb (star_cons hs.1) (star_any hs.2)) fun σ H Q h => ?_
  obtain ⟨m, ρ, st, R, w⟩ := h
  refine ⟨m, ρ, st, R, w.bind.imp fun ds m1 s1 H1 R1 E1 w1 vs rvs => ?_⟩
  obtain ⟨d, e, w1⟩ := w1.lift
  unfold apTm at e
  split at e
  · rename_i i
    cases e
    obtain ⟨v, rfl, rv⟩ := vs1 rvs
    cases rv
    refine ⟨i, rfl, fun a dx ha hd hne => ?_⟩
    rw [upd3 hne]
    have R2 := R1.upd (o := exd dx [("limit", .int i)]) hd
    have ha2 : L2.upd H1 dx (exd dx [("limit", .int i)]) a = none := by rw [upd_ne (Ne.symm hne)]; exact ha
    have R3 := R2.upd (o := exo a C (some dx)) ha2
    exact w1 m1 _ R3 ((R1.ext_upd hd).trans (R2.ext_upd ha2)) _ (.et gC upd_same (by rw [upd_ne hne]; exact upd_same) (R1.fresh ha) (R1.fresh hd))
  · cases e
theorem xr_str {cs : List Str} (F : ∀ c ∈ cs, ∀ C, mg c = some (.ref C) → PySem.W.findIn K (.ref C) "__str__" = some (some (.builtin "BaseException.__str__")) ∧ PySem.W.subIn K (.ref C) (.type "BaseException") = some true) (hm : mg "str" = none) : XR P w K mg base T "str" (apSt cs) := by
  intro X E e es rl p pos h1 h2 h3 h4 h5 tk rm hc hu hg hdb hs hA
  subst h1 h2 h3 h4 h5
  simp only [List.all_cons, Bool.and_eq_true] at hs
  refine PE.mono (pe_callTy (call_strX (by omega)) hg hm (by decide +kernel) hA (by decide) hdb (star_cons hs.1) (star_any hs.2)) fun σ H Q h => ?_
  obtain ⟨m, ρ, st, R, w⟩ := h
  refine ⟨m, ρ, st, R, w.bind.imp fun ds m1 s1 H1 R1 E1 w1 vs rvs => ?_⟩
  obtain ⟨d, e, w1⟩ := w1.lift
  unfold apSt at e
  split at e
  · rename_i c z
    split at e
    · rename_i hcs
      cases e
      obtain ⟨v, rfl, rv⟩ := vs1 rvs
      cases rv with
      | ex h h1 h2 n1 n2 =>
        obtain ⟨f1, f2⟩ := F c hcs _ h
        exact ⟨_, _, _, z, rfl, h1, h2, f1, f2, w1.now R1 _ (.str z)⟩
    · cases e
  · cases e
theorem ar_lim {f : Str} (F : ∀ C, mg f = some (.ref C) → XfC K C ∧ PySem.W.findIn K (.ref C) "limit" = some none) : AR P w K mg base T "limit" (atLm f) := by
  intro X E e re pos h1 h2 h3 h4 h5 hb hE
  subst h1 h2 h3 h4 h5
  refine PE.mono (pe_atx hE hb) fun σ H Q h => ?_
  obtain ⟨m, ρ, st, R, w⟩ := h
  refine ⟨m, ρ, st, R, w.bind.imp fun x m1 s1 H1 R1 E1 w1 v rv => ?_⟩
  obtain ⟨d, e, w1⟩ := w1.lift
  unfold atLm at e
  split at e
  · rename_i c i
    split at e
    · rename_i hcf
      subst hcf
      cases e
      cases rv with
      | et h h1 h2 n1 n2 =>
        obtain ⟨f1, f2⟩ := F _ h
        exact ⟨_, _, _, _, _, rfl, h1, h2, f1, f2, rfl, w1.now R1 _ (.int i)⟩
    · cases e
  · cases e
end
end MP
set_option Elab.async false
set_option linter.all false
set_option maxRecDepth 100000
set_option maxHeartbeats 2000000
namespace MP
open PySem PySem.Spec PyProof.Rows L2 LamX
def oexcB (K : PySem.W.Frag) (C : Addr) : Bool := match K.lookup C with
  | some ⟨.type t, _, .cls cd, sl⟩ => decide (t = "type") && (match cd.mro, sl.toList with
    | .ref C' :: bm, [_, _, _, _, some (.builtin n), _] => decide (C' = C) && decide (n = "ValueError.__new__") && !cd.hasDel && cd.hasDict && PySem.HandSPX.refsVE bm
    | _, _ => false)
  | _ => false
theorem oexcB_ok {K : PySem.W.Frag} {C : Addr} (h : oexcB K C = true) : ∃ nm q N bs bm sn sub ab col dd k0 k1 k2 k3 k5, K.lookup C = some (excClassObj nm q C N bs bm true sn sub ab col dd k0 k1 k2 k3 k5 "ValueError.__new__") ∧ PySem.HandSPX.refsVE bm = true := by
  unfold oexcB at h
  split at h
  · rename_i t dd cd sl ho
    rw [Bool.and_eq_true, decide_eq_true_eq] at h
    obtain ⟨rfl, h⟩ := h
    split at h
    · rename_i C' bm k0 k1 k2 k3 n k5 hm hs
      simp only [Bool.and_eq_true, decide_eq_true_eq, Bool.not_eq_true'] at h
      obtain ⟨⟨⟨⟨rfl, rfl⟩, hdel⟩, hd⟩, hr⟩ := h
      obtain ⟨nm, bs, mro, ns, qn, hdd, sn, sub, ab, col, del⟩ := cd
      dsimp only at hm hdel hd
      subst hm hdel hd
      have hsl : sl = #[k0, k1, k2, k3, some (.builtin "ValueError.__new__"), k5] := by
        obtain ⟨l⟩ := sl
        simp only at hs
        rw [hs]
      subst hsl
      exact ⟨nm, qn, ns, bs, bm, sn, sub, ab, col, dd, k0, k1, k2, k3, k5, ho, hr⟩
    · cases h
  · cases h
def oexB (K : PySem.W.Frag) (C : Addr) : Bool := oexcB K C && He.eqO (PySem.W.findIn K (.ref C) "__setattr__") (some (some (.builtin "object.__setattr__"))) && decide (PySem.W.subIn K (.ref C) (.type "BaseException") = some true) && decide (PySem.W.typeIn K (.ref C) = some (.type "type")) && PySem.W.keepIn K (.ref C)
theorem oexB_ok {K : PySem.W.Frag} {C : Addr} (h : oexB K C = true) : OexC K C := by
  unfold oexB at h
  simp only [Bool.and_eq_true, decide_eq_true_eq] at h
  obtain ⟨⟨⟨⟨h1, h2⟩, h3⟩, h4⟩, h5⟩ := h
  exact ⟨oexcB_ok h1, He.eqO_ok h2, h3, h4, h5⟩
def scB (sc : Scope) : Bool := decide (sc.kind = .function) && !sc.isCoroutine && !sc.isGenerator && (sc.names.all fun x => !decide (x.2 = .cell)) && decide (sc.names.lookup ("super" : Str) = some .globalImplicit) && decide (sc.names.lookup ("__class__" : Str) = some .free) && decide (sc.names.lookup ("self" : Str) = some .local) && decide (sc.names.lookup ("limit" : Str) = some .local)
theorem scB_ok {sc : Scope} (h : scB sc = true) : TmS sc := by
  unfold scB at h
  simp only [Bool.and_eq_true, decide_eq_true_eq, Bool.not_eq_true', List.all_eq_true, decide_eq_false_iff_not] at h
  obtain ⟨⟨⟨⟨⟨⟨⟨h1, h2⟩, h3⟩, h4⟩, h5⟩, h6⟩, h7⟩, h8⟩ := h
  exact ⟨h1, h2, h3, h4, h5, h6, h7, h8⟩
def cellB (K : PySem.W.Frag) (cc C : Addr) : Bool := match K.lookup cc with
  | some ⟨_, _, .cell (some (.ref D)), _⟩ => decide (D = C)
  | _ => false
def codeFB (K : PySem.W.Frag) (cda : Addr) (f0 : Str) : Bool := match K.lookup cda with
  | some ⟨_, _, .fields vs, _⟩ => (match (vs[2]? : Option Value) with
    | some (.str f _) => f0 == f
    | _ => false)
  | _ => false
def tmFn (f0 : Str) (K : PySem.W.Frag) (C : Addr) (fd : FuncData) : Bool := match fd with
  | ⟨_, qual, ⟨[], [⟨a, _, _⟩, ⟨b, _, _⟩], none, [], [], none, []⟩, .stmts [.Expr (.Call (.Attribute (.Call (.Name s _) [] [] _) i p2) [.Constant (.str _) _ _] [] p4) _, .Assign [.Attribute (.Name x _) y _] (.Name z _) _], sc, gl, [(c, cc)], .none, _, _, _, _, .ref cda, _, bl⟩ =>
    decide (a = "self") && decide (b = "limit") && decide (s = "super") && decide (i = "__init__") && (p2.endLine == p4.line) && decide (x = "self") && decide (y = "limit") && decide (z = "limit") && decide (c = "__class__") && decide (gl = mainGlobals) && decide (bl = builtinsNs) && scB sc && PySem.W.codeIn K (.ref cda) qual && cellB K cc C && codeFB K cda f0
  | _ => false
def tmB (f0 : Str) (K : PySem.W.Frag) (C : Addr) : Bool := oexB K C && decide (PySem.W.subIn K (.ref C) (.type "ValueError") = some true) && decide (PySem.W.mroIn K C (.ref C) = some true) && He.eqO (PySem.W.ks_superIn K C C "__init__") (some (some (.builtin "ValueError.__init__"))) && He.eqO (PySem.W.nsIn K cStatics "thirdparty.any") (some none) &&
  He.eqO (PySem.W.findIn K (.ref C) "limit") (some none) && He.eqO (PySem.W.findIn K (.ref C) "__init__") (some (some (.ref (He.ma K C "__init__")))) && decide (PySem.W.typeIn K (.ref (He.ma K C "__init__")) = some (.type "function")) && (match K.lookup (He.ma K C "__init__") with
    | some ⟨_, _, .func fd, _⟩ => tmFn f0 K C fd
    | _ => false)
theorem tmFn_ok {P : Program} {w : World} {K : PySem.W.Frag} {mg : MG} {base : Heap} {CX : CXT} {k : Nat} {f0 : Str} {C f : Addr} {fd : FuncData} {oc : Value} {od : Option Addr} {osl : Array (Option Value)} (h : tmFn f0 K C fd = true) (lk : K.lookup f = some ⟨oc, od, .func fd, osl⟩) (hms : mg "super" = none)
    (oex : OexC K C) (ve : PySem.W.subIn K (.ref C) (.type "ValueError") = some true) (self : PySem.W.mroIn K C (.ref C) = some true) (up : PySem.W.ks_superIn K C C "__init__" = some (some (.builtin "ValueError.__init__"))) (opq : PySem.W.nsIn K cStatics "thirdparty.any" = some none) (lim : PySem.W.findIn K (.ref C) "limit" = some none)
    (hf : P.main.file = f0) (top : (P.main.scope.names.lookup ("super" : Str)).isSome = false) : FnOk P w K mg base CX (k + 1) f fd ["self", "limit"] (spTm C) ∧ Binds K fd ["self", "limit"] [] := by
  unfold tmFn at h
  split at h
  · rename_i nm qual a a1 a2 b b1 b2 s s1 s2 i p2 msg kc p3 p4 p5 x x1 y y1 z z1 z2 sc gl c cc kV doc pm an cda ct bl
    simp only [Bool.and_eq_true, decide_eq_true_eq] at h
    obtain ⟨⟨⟨⟨⟨⟨⟨⟨⟨⟨⟨⟨⟨⟨e1, e2⟩, e3⟩, e4⟩, e5⟩, e6⟩, e7⟩, e8⟩, e9⟩, e10⟩, e11⟩, e12⟩, e13⟩, e14⟩, e15⟩ := h
    subst e1 e2 e3 e4 e6 e7 e8 e9 e10 e11
    have hcell : ∃ cl cld csl, K.lookup cc = some ⟨cl, cld, .cell (some (.ref C)), csl⟩ := by
      unfold cellB at e14
      split at e14
      · rename_i q1 q2 D q3 hq
        obtain rfl := of_decide_eq_true e14
        exact ⟨_, _, _, hq⟩
      · cases e14
    have hcode : ∃ ccl cdd vs ccs file tf, K.lookup cda = some ⟨ccl, cdd, .fields vs, ccs⟩ ∧ vs[2]? = some (.str file tf) ∧ ((P.main.file : Str) == file) = true := by
      unfold codeFB at e15
      split at e15
      · rename_i q1 q2 vs q3 hq
        split at e15
        · rename_i fl tf hv
          exact ⟨_, _, vs, _, fl, tf, hq, hv, by rw [hf]; exact e15⟩
        · cases e15
      · cases e15
    exact ⟨tm_init (ar := ⟨"self", a1, a2⟩) e5 ⟨oex, ve, self, up, opq, lim, hcell, hcode, top⟩ (scB_ok e12) hms rfl rfl lk e13, Binds.all fun us hl => match us, hl with | [_, _], _ => rfl⟩
  · cases h
def subX (x y : Str) : Bool := decide (y = "WheelError") || decide (x = y)
def isubX (ns : List Str) (c t : Str) : Option Bool := if c ∈ ns then (if t = "ValueError" then some true else if t ∈ ns then some (subX c t) else none) else none
theorem isubX_of {ns : List Str} {c t : Str} {b : Bool} (h : isubX ns c t = some b) : c ∈ ns ∧ ((t = "ValueError" ∧ b = true) ∨ (t ≠ "ValueError" ∧ t ∈ ns ∧ b = subX c t)) := by
  unfold isubX at h
  split at h
  · split at h
    · cases h
      exact ⟨by assumption, .inl ⟨by assumption, rfl⟩⟩
    · split at h
      · cases h
        exact ⟨by assumption, .inr ⟨by assumption, by assumption, rfl⟩⟩
      · cases h
  · cases h
def xapX (pl : List Str) (tm f : Str) : List D → Option D := if f ∈ pl then apEx f else if f = tm then apTm f else apSt pl
/-- what the head is to tell of the classes pl and of the class tm with its own __init__ -/
def xB (f0 : Str) (pl : List Str) (tm : Str) (K : PySem.W.Frag) : Bool :=
  (pl.all fun x => (He.Fa.glo x).ok K && (He.Fa.exc x).ok K && excCB K (He.ga K x) && He.eqO (PySem.W.findIn K (.ref (He.ga K x)) "__str__") (some (some (.builtin "BaseException.__str__")))) && (He.Fa.glo tm).ok K && excCB K (He.ga K tm) && tmB f0 K (He.ga K tm) && (He.Fa.free "super").ok K &&
  ((tm :: pl).all fun x => (tm :: pl).all fun y => decide (PySem.W.kitOne K (.ref (He.ga K x)) (.ref (He.ga K y)) = some (subX x y))) && ((tm :: pl).all fun x => decide (PySem.W.kitOne K (.ref (He.ga K x)) (.type "ValueError") = some true))
section
variable {P : Program} {w : World} {K : PySem.W.Frag} {mg : MG} {h : Heap} {T : List (Addr × Str)} {f0 : Str} {pl : List Str} {tm : Str}
theorem xr_all (KX : K.In h) (Gn : h.Ns mainGlobals mg) (hb : xB f0 pl tm K = true) (hf : P.main.file = f0) (htop : (P.main.scope.names.lookup ("super" : Str)).isSome = false) (hs : mg "str" = none) (ns : ∀ x ∈ tm :: pl, x ≠ "str") (ntm : tm ∉ pl) :
    ∀ base f, (f ∈ pl ∨ f = tm ∨ f = "str") → XR P w K mg base T f (xapX pl tm f) := by
  intro base f hfm
  unfold xB at hb
  simp only [Bool.and_eq_true, List.all_eq_true, decide_eq_true_eq] at hb
  obtain ⟨⟨⟨⟨⟨⟨b1, b2⟩, b3⟩, b4⟩, b5⟩, b6⟩, b7⟩ := hb
  unfold xapX
  by_cases hp : f ∈ pl
  · rw [if_pos hp]
    obtain ⟨⟨⟨g1, g2⟩, g3⟩, g4⟩ := b1 f hp
    obtain ⟨e1, e2, e3, e4⟩ := He.exc_ok g2
    exact xr_exc PySem.F.excBase_ValueError e1 (He.glo_ok KX Gn g1) e2
  · rw [if_neg hp]
    by_cases ht : f = tm
    · subst ht
      rw [if_pos rfl]
      unfold tmB at b4
      simp only [Bool.and_eq_true, decide_eq_true_eq] at b4
      obtain ⟨⟨⟨⟨⟨⟨⟨⟨t1, t2⟩, t3⟩, t4⟩, t5⟩, t6⟩, t7⟩, t8⟩, t9⟩ := b4
      split at t9
      · rename_i oc od fd osl hq
        obtain ⟨k1, k2⟩ := tmFn_ok (P := P) (w := w) (mg := mg) (base := base) (CX := L2N.CX P w) (k := 0) t9 hq (He.free_ok KX Gn b5) (oexB_ok t1) t2 t3 (He.eqO_ok t4) (He.eqO_ok t5) (He.eqO_ok t6) hf htop
        exact xr_tm (oexB_ok t1) (He.eqO_ok t7) t8 k1 k2 (He.glo_ok KX Gn b2)
      · cases t9
    · rw [if_neg ht]
      rcases hfm with hfm | hfm | rfl
      · exact absurd hfm hp
      · exact absurd hfm ht
      · refine xr_str (fun c hc C hC => ?_) hs
        obtain ⟨⟨⟨g1, g2⟩, g3⟩, g4⟩ := b1 c hc
        rw [He.glo_ok KX Gn g1] at hC
        cases hC
        exact ⟨He.eqO_ok g4, (excC_of g3).hs⟩
theorem isc_all (KX : K.In h) (Gn : h.Ns mainGlobals mg) (hb : xB f0 pl tm K = true) (hv : mg "ValueError" = none) (db : ∀ x ∈ ("ValueError" :: tm :: pl : List Str), (x == ("__debug__" : Str)) = false) (nv : ∀ x ∈ tm :: pl, x ≠ "ValueError") :
    ∀ t, (t ∈ tm :: pl ∨ t = "ValueError") → IscF K mg t fun c => isubX (tm :: pl) c t := by
  intro t ht
  unfold xB at hb
  simp only [Bool.and_eq_true, List.all_eq_true, decide_eq_true_eq] at hb
  obtain ⟨⟨⟨⟨⟨⟨b1, b2⟩, b3⟩, b4⟩, b5⟩, b6⟩, b7⟩ := hb
  have glo : ∀ x ∈ tm :: pl, mg x = some (.ref (He.ga K x)) ∧ ExcC K (He.ga K x) := fun x hx => by
    rcases List.mem_cons.mp hx with rfl | hx
    · exact ⟨He.glo_ok KX Gn b2, excC_of b3⟩
    · obtain ⟨⟨⟨g1, g2⟩, g3⟩, g4⟩ := b1 x hx
      exact ⟨He.glo_ok KX Gn g1, excC_of g3⟩
  rcases ht with ht | rfl
  · refine ⟨db t (List.mem_cons_of_mem _ ht), .inl ⟨_, (glo t ht).1, fun c b hc => ?_⟩⟩
    obtain ⟨hcm, ⟨z, _⟩ | ⟨_, _, rfl⟩⟩ := isubX_of hc
    · exact absurd z (nv t ht)
    · exact ⟨_, (glo c hcm).1, (glo c hcm).2, b6 c hcm t ht⟩
  · refine ⟨db _ (List.mem_cons_self ..), .inr ⟨"ValueError", hv, by decide, by decide +kernel, fun c b hc => ?_⟩⟩
    obtain ⟨hcm, ⟨_, rfl⟩ | ⟨z, _⟩⟩ := isubX_of hc
    · exact ⟨_, (glo c hcm).1, (glo c hcm).2, b7 c hcm⟩
    · exact absurd rfl z
theorem ar_all (KX : K.In h) (Gn : h.Ns mainGlobals mg) (hb : xB f0 pl tm K = true) : ∀ base (n : Str), n = "limit" → AR P w K mg base T n (atLm tm) := by
  intro base n hn
  subst hn
  unfold xB at hb
  simp only [Bool.and_eq_true, List.all_eq_true, decide_eq_true_eq] at hb
  obtain ⟨⟨⟨⟨⟨⟨b1, b2⟩, b3⟩, b4⟩, b5⟩, b6⟩, b7⟩ := hb
  refine ar_lim fun C hC => ?_
  rw [He.glo_ok KX Gn b2] at hC
  cases hC
  have x := excC_of b3
  unfold tmB at b4
  simp only [Bool.and_eq_true, decide_eq_true_eq] at b4
  obtain ⟨⟨⟨⟨⟨⟨⟨⟨t1, t2⟩, t3⟩, t4⟩, t5⟩, t6⟩, t7⟩, t8⟩, t9⟩ := b4
  exact ⟨⟨x.hg, x.hk, x.hs, x.hd⟩, He.eqO_ok t6⟩
end
def asS (g : Addr → Option Obj) (n : Nat) : List Addr := He.asD g n ++ [cStatics]
def obsS (n : Nat) (fa : List He.Fa) (fn : List He.DefD) (ts : List He.Tab) (tf : List He.Defn) (ex : PySem.W.Frag → Bool) (g : Addr → Option Obj) : He.AlX := (He.obsT fa fn ts (He.frT g (asS g n)), ex (He.frT g (asS g n)) && He.tabsB g tf (He.frT g (asS g n)))
theorem saysS_of {as : List Addr} {fa : List He.Fa} {fn : List He.DefD} {ts : List He.Tab} {tf : List He.Defn} {ex : PySem.W.Frag → Bool} {w : World} {h : Heap} (e1 : He.obsT fa fn ts (He.frT h.get? as) = He.valT fn ts w) (e2 : (ex (He.frT h.get? as) && He.tabsB h.get? tf (He.frT h.get? as)) = true) : He.SaysX fa fn ts tf ex w h (He.frT h.get? as) := by
  obtain ⟨h1, h2⟩ := He.ba e2
  have key : ∀ p ∈ tf, PySem.W.codeHdIn (He.frT h.get? as) (He.cT (He.frT h.get? as) p).1 (He.cT (He.frT h.get? as) p).2 = true ∧ ∃ o, h.get? (He.cT (He.frT h.get? as) p).2 = some o ∧ He.emptyTab o = true := fun p hp => by
    obtain ⟨h3, h4⟩ := He.ba (List.all_eq_true.mp h2 p hp)
    split at h4
    · rename_i o q
      exact ⟨h3, o, q, h4⟩
    · cases h4
  exact ⟨e1, h1, fun p hp => (key p hp).1, fun p hp => let ⟨_, _, q, z⟩ := key p hp; He.frT_none q z, fun p hp => by
    obtain ⟨_, o, q, z⟩ := key p hp
    rw [q, He.emptyTab_eq z]⟩
def hookS (n : Nat) (fa : List He.Fa) (fn : List He.DefD) (ts : List He.Tab) (tf : List He.Defn) (ex : PySem.W.Frag → Bool) : PySem.W.Hook where
  α := He.AlX
  obs := fun s => obsS n fa fn ts tf ex s.heap.get?
  val := fun w => He.valX fn ts w
  says := fun w h => ∃ K : PySem.W.Frag, K.In h ∧ He.SaysX fa fn ts tf ex w h K
  of := fun _ _ e => ⟨_, He.frT_in, saysS_of (congrArg (fun z : He.AlX => z.1) e) (congrArg (fun z : He.AlX => z.2) e)⟩
  keeps := fun _ _ _ ⟨K, hK, c⟩ k => ⟨K, PySem.W.Frag.In.keeps hK k, ⟨c.t, c.more, c.hd, c.out, fun p hp => k _ _ (c.empty p hp)⟩⟩
theorem obsS_eq {n : Nat} {fa : List He.Fa} {fn : List He.DefD} {ts : List He.Tab} {tf : List He.Defn} {ex : PySem.W.Frag → Bool} {g : Addr → Option Obj} {s : Shared} (h : ∀ a, g a = s.heap.get? a) : obsS n fa fn ts tf ex g = (hookS n fa fn ts tf ex).obs s := by
  have e : g = s.heap.get? := funext h
  rw [e] <;> rfl
/-- all that a head with more to tell tells -/
abbrev SaysE (xb : PySem.W.Frag → Bool) (rows : List RowD) (exs cls : List Str) (cns : List (Str × Int)) (w : World) (h : Heap) (K : PySem.W.Frag) : Prop := He.SaysX (faOf rows exs cls cns) (rows.map RowD.dd) [] ((lamsOf rows).map fun x => (x, none)) (fun K => exB exs cls (lamsOf rows) K && xb K) w h K
theorem says_of {xb : PySem.W.Frag → Bool} {rows : List RowD} {exs cls : List Str} {cns : List (Str × Int)} {w : World} {h : Heap} {K : PySem.W.Frag} (c : SaysE xb rows exs cls cns w h K) : Says rows exs cls cns w h K ∧ xb K = true :=
  ⟨⟨c.t, (He.ba c.more).1, c.hd, c.out, c.empty⟩, (He.ba c.more).2⟩
end MP
set_option Elab.async false
set_option linter.all false
set_option maxRecDepth 1000000
set_option maxHeartbeats 0
namespace K14
open PySem PySem.Spec PyProof.Rows L2 LamX MP

abbrev pg : PySem.Program := PySem.Challenge.pw_wheelinbalance_k14_classes_of_errors
def top (i : Nat) : Stmt := pg.main.body.getD i (.Pass ⟨0, 0, 0, 0⟩)
def rows : List RowD := [⟨top 18, "_law_plain", [], ["_law_some"], false⟩,
  ⟨top 19, "_law_kinds", ["_law_e"], ["_law_e", "_law_some"], false⟩,
  ⟨top 20, "law", ["_law_script"], ["_law_script", "_law_some", "_law_at", "_law_cell", "_law_one", "_law_e", "_law_other"], false⟩]
def cns : List (Str × Int) := []
def exs : List Str := []
def cls : List Str := []
def pl : List Str := ["WheelError", "InvalidWheel", "InvalidLay", "InvalidHole", "InvalidHoles", "InvalidTubes", "InvalidFacts", "InvalidNumber", "InvalidSome", "InvalidText", "ManyPrimes", "Full", "Empty", "Unlike", "NothingToUndo"]
def tm : Str := "TooMany"
def inL (l : List (Nat × Nat × Nat)) (p : Pos) : Bool := l.any fun q => q.1 == p.line && q.2.1 == p.col && q.2.2 == p.endCol
def isXf (f : Str) : Bool := decide (f ∈ pl) || decide (f = tm) || decide (f = "str")
def isCf (t : Str) : Bool := decide (t ∈ tm :: pl) || decide (t = "ValueError")
def g : Glb := { isDef := fun x => (findD (rows.map RowD.d) x).isSome, isExc := fun _ => false, isHnd := fun _ => false, isX := isXf, isCls := isCf, isAt := fun n => decide (n = "limit"), call := fun _ _ _ => .bad, cst := fun x => (cns.lookup x).map .int, hnd := fun _ => none, mkr := inL [], frz := inL [], xap := xapX pl tm, isub := isubX (tm :: pl), atf := fun _ => atLm tm }
def M : Mdl := ⟨rows.map RowD.d, g⟩
theorem ck_all : rows.all (RowD.ck g.toSta) = true := by decide +kernel
theorem bd18 : RowD.bd (⟨top 18, "_law_plain", [], ["_law_some"], false⟩) := fun _ _ _ _ _ _ us hl => match us, hl with | [], _ => rfl
theorem bd19 : RowD.bd (⟨top 19, "_law_kinds", ["_law_e"], ["_law_e", "_law_some"], false⟩) := fun _ _ _ _ _ _ us hl => match us, hl with | [_], _ => rfl
theorem bd20 : RowD.bd (⟨top 20, "law", ["_law_script"], ["_law_script", "_law_some", "_law_at", "_law_cell", "_law_one", "_law_e", "_law_other"], false⟩) := fun _ _ _ _ _ _ us hl => match us, hl with | [_], _ => rfl
theorem bd_all : ∀ r ∈ rows, r.bd := by
  simp only [rows, List.forall_mem_cons]
  exact ⟨bd18, bd19, bd20, fun _ h => nomatch h⟩
end K14
set_option Elab.async false
set_option linter.all false
set_option maxRecDepth 1000000
set_option maxHeartbeats 0
namespace K14
open PySem PySem.Spec PyProof.Rows L2 LamX MP
abbrev R : PySem.W.OpenRow := PySem.W.OpenLaw.row PySem.Challenge.rw_wheelinbalance_k14_classes_of_errors
def xb (K : PySem.W.Frag) : Bool := xB pg.main.file pl tm K
abbrev exA (K : PySem.W.Frag) : Bool := exB exs cls (lamsOf rows) K && xb K
abbrev hk : PySem.W.Hook := hookS 5 (faOf rows exs cls cns) (rows.map RowD.dd) [] ((lamsOf rows).map fun x => (x, none)) (fun K => exB exs cls (lamsOf rows) K && xb K)
def ob (s : PySem.W.SharedT) : He.AlX := obsS 5 (faOf rows exs cls cns) (rows.map RowD.dd) [] ((lamsOf rows).map fun x => (x, none)) (fun K => exB exs cls (lamsOf rows) K && xb K) (HandSHeadRun.getT s)
theorem ob_eq (s : PySem.W.SharedT) : ob s = hk.obs s.abs := obsS_eq (HandSHeadRun.getT_eq s)
def loose : List Str := (["_law_plain", "_law_kinds", "WheelError", "InvalidWheel", "InvalidLay", "InvalidHole", "InvalidHoles", "InvalidTubes", "InvalidFacts", "InvalidNumber", "InvalidSome", "InvalidText"] : List Str) ++ (["ManyPrimes", "Full", "Empty", "Unlike", "NothingToUndo", "TooMany"] : List Str)
theorem run (w : World) : HandSHeadRun.RunEq R (PySem.W.view R.prog [20]) hk ob 20000 loose w := by
  intro os
  kernel_rfl
theorem holds_of (law : ∀ ns : List Int, ns.length ≤ 63 → (∀ z ∈ ns, Builtin.Int.intBits z ≤ 1048576) → ∃ st, callK M (30 + 1) "law" [.list (ns.map .int)] [] = .ok (.bool true) st) : PySem.Challenge.rw_wheelinbalance_k14_classes_of_errors.Holds := by
  w_on; o_law
  refine HandSHeadRun.head_any (r := PySem.W.OpenLaw.row PySem.Challenge.rw_wheelinbalance_k14_classes_of_errors) (q := PySem.W.view R.prog [20]) (H := hk) (ob := ob) (M := 20000) (loose := loose) (d := HandSHeadRun.topDef R.prog 20) (kwd := []) ob_eq
    (by kernel_rfl) (fun s => by kernel_rfl) run (by kernel_rfl) (by kernel_rfl) (by kernel_rfl) (by rfl) (by first | assumption | decide +kernel) (by decide +kernel) ⟨rfl, rfl, rfl, rfl, rfl, by decide +kernel⟩ ?hw ?hc
  case hw => w_witness2
  case hc =>
    refine LamX.walk_ofTsE (l := PySem.Challenge.rw_wheelinbalance_k14_classes_of_errors) (n := 63) (k := 7 * 30 + 7) (x := "_law_script") (CX := fun w => L2N.CX (PySem.Challenge.rw_wheelinbalance_k14_classes_of_errors).prog w) rfl (by decide) (by kernel_rfl) ⟨rfl, by decide, by decide⟩ ?F ?X
    case X =>
      rintro w H s e s' ⟨_, _, _, _, _, _, _, _, _, _, _, _, hE⟩
      exact hE
    intro w mg fa h Y G hmg0
    obtain ⟨K, KX, c0⟩ := Y
    obtain ⟨c, hb⟩ := says_of (xb := xb) c0
    have hmg : mg ("law" : Str) = some (.ref fa) := by
      have e : (HandSHeadRun.topDef R.prog 20).name = ("law" : Str) := by kernel_rfl
      rw [← e]
      exact hmg0
    have hs : mg "str" = none := He.free_ok KX G (says_fact c (fa_bnm (by decide)))
    have hv : mg "ValueError" = none := He.free_ok KX G (says_fact c (fa_free (by simp)))
    exact ⟨K, KX, law_at (rows := rows) (rowsA := rows) (exs := exs) (cls := cls) (cns := cns) (g := g) (kk := 30) (r := ⟨top 20, "law", ["_law_script"], ["_law_script", "_law_some", "_law_at", "_law_cell", "_law_one", "_law_e", "_law_other"], false⟩) (fun _ h => h) KX G c hmg (fun _ => rfl) (fun x hx => Bool.noConfusion (show false = true from hx)) (fun _ _ h => by cases (show none = some _ from h)) (fun r hr => List.all_eq_true.mp ck_all r hr) bd_all (fun _ h => Bool.noConfusion (show false = true from h)) (by simp [rows]) rfl rfl (by decide +kernel) rfl law
      (fun base f hf => xr_all KX G hb (by kernel_rfl) (by kernel_rfl) hs (by decide +kernel) (by decide +kernel) base f (by
        have hf : isXf f = true := hf
        simpa [isXf, or_assoc] using hf))
      (fun t ht => isc_all KX G hb hv (by decide +kernel) (by decide +kernel) t (by
        have ht : isCf t = true := ht
        simpa only [isCf, Bool.or_eq_true, decide_eq_true_eq] using ht))
      (fun base n hn => ar_all KX G hb base n (of_decide_eq_true hn))⟩
end K14
set_option linter.all false
set_option maxRecDepth 100000
set_option maxHeartbeats 1000000
namespace K14
open PySem PySem.Spec PyProof.Rows L2 LamX MP
theorem frz_no {k : Nat} {p : Pos} : (M.at k).noH.frz p = inL [] p := (rfl)
theorem mkr_no {k : Nat} {p : Pos} : (M.at k).noH.mkr p = inL [] p := (rfl)
theorem hnd_no {k : Nat} {p : Str} : (M.at k).noH.isHnd p = false := (rfl)
theorem def_no {k : Nat} {p : Str} : (M.at k).noH.isDef p = g.isDef p := (rfl)
theorem frz_on {k : Nat} {p : Pos} : (M.at k).frz p = inL [] p := (rfl)
theorem mkr_on {k : Nat} {p : Pos} : (M.at k).mkr p = inL [] p := (rfl)
theorem hnd_on {k : Nat} {p : Str} : (M.at k).isHnd p = false := (rfl)
theorem def_on {k : Nat} {p : Str} : (M.at k).isDef p = g.isDef p := (rfl)
theorem isx_no {k : Nat} {p : Str} : (M.at k).noH.isX p = isXf p := (rfl)
theorem isx_on {k : Nat} {p : Str} : (M.at k).isX p = isXf p := (rfl)
theorem icl_no {k : Nat} {p : Str} : (M.at k).noH.isCls p = isCf p := (rfl)
theorem icl_on {k : Nat} {p : Str} : (M.at k).isCls p = isCf p := (rfl)
theorem cst_no {k : Nat} {x : Str} : (M.at k).noH.cst x = (cns.lookup x).map .int := (rfl)
theorem cst_on {k : Nat} {x : Str} : (M.at k).cst x = (cns.lookup x).map .int := (rfl)
/-- the errors of one text -/
def ems : List Str := ["InvalidWheel", "InvalidLay", "InvalidHole", "InvalidHoles", "InvalidTubes", "InvalidFacts", "InvalidNumber", "InvalidSome", "InvalidText", "ManyPrimes", "Full", "Empty", "Unlike", "NothingToUndo"]
def emD (x : Str) : PyData := .dict [(.str x, .str "m")]
def tmD : PyData := .dict [(.str "TooMany", .int 12)]
theorem f_plain : callK M 30 "_law_plain" [] [] = .ok (.list (ems.map emD)) [] := by kernel_rfl
abbrev lawN : List Str := (RowD.d ⟨top 20, "law", ["_law_script"], ["_law_script", "_law_some", "_law_at", "_law_cell", "_law_one", "_law_e", "_law_other"], false⟩).N
abbrev lawB : List Stmt := (RowD.d ⟨top 20, "law", ["_law_script"], ["_law_script", "_law_some", "_law_at", "_law_cell", "_law_one", "_law_e", "_law_other"], false⟩).body
abbrev GG : Glb := (M.at 30).noH
def st_ (i : Nat) : Stmt := lawB.getD i (.Pass ⟨0, 0, 0, 0⟩)
theorem lawB_eq : lawB = [st_ 0, st_ 1, st_ 2, st_ 3, st_ 4] := by kernel_rfl
def some_ : PyData := .list (ems.map emD ++ [tmD])
theorem s0 (L : D) : execS GG lawN 99 (st_ 0) (startR lawN [L]) [] = .ok (.nx [some L, some some_, none, none, none, none, none]) [] := by kernel_rfl
theorem s1 (L : D) : execS GG lawN 98 (st_ 1) [some L, some some_, none, none, none, none, none] [] = .ok (.nx [some L, some some_, some (.int 14), none, none, none, none]) [] := by kernel_rfl
theorem s2 (L : D) : execS GG lawN 97 (st_ 2) [some L, some some_, some (.int 14), none, none, none, none] [] = .ok (.nx [some L, some some_, some (.int 14), none, none, none, none]) [] := by kernel_rfl
theorem s4 (a b c d e f g : Option D) : execS GG lawN 95 (st_ 4) [a, b, c, d, e, f, g] [] = .ok (.rt (.bool true)) [] := by kernel_rfl
def B40 : Int := 10 ^ 40
theorem pw : binop .Pow (.int 10) (.int 40) = some (.int B40) := by kernel_rfl
theorem ap_tm (i : Int) : xapX pl tm "TooMany" [.int i] = some (.dict [(.str "TooMany", .int i)]) := by
  unfold xapX
  rw [if_neg (by decide +kernel), if_pos (by decide +kernel)]
  rfl
theorem at_tm (i : Int) : atLm tm (.dict [(.str "TooMany", .int i)]) = some (.int i) := by
  show (if ("TooMany" : Str) = tm then some (PyData.int i) else none) = _
  rw [if_pos (by decide +kernel)]
theorem g_xap {k : Nat} : (M.at k).noH.xap = xapX pl tm := (rfl)
theorem g_atf {k : Nat} : (M.at k).noH.atf "limit" = atLm tm := (rfl)
theorem g_at {k : Nat} : (M.at k).noH.isAt "limit" = true := by kernel_rfl
theorem add40 {l : List Int} (h : l.length ≤ 63) : binop .Add (.list [.int 40]) (.list (l.map .int)) = some (.list ((40 :: l).map .int)) := by
  show (if _ then _ else _) = _
  rw [if_pos (by rw [List.length_map, List.length_singleton]; unfold LIM; omega)]
  rfl
theorem s3 (ns : List Int) (hn : ns.length ≤ 63) : ∃ d, execS (M.at 30).noH ["_law_script", "_law_some", "_law_at", "_law_cell", "_law_one", "_law_e", "_law_other"] 96 (st_ 3) [some (.list (ns.map .int)), some some_, some (.int 14), none, none, none, none] [] = .ok (.nx [some (.list (ns.map .int)), some some_, some (.int 14), d, none, none, none]) [] := by
  conv in st_ 3 => whnf
  simp (config := {decide := true}) only [v_x_name, v_x_cst, v_x_tup, v_x_list, v_x_bin, v_x_bool, v_x_cmp, v_x_slice, v_x_rev, v_x_sub_name, v_x_sub_cst, v_x_sub_bin, v_x_sub_un, v_x_sub_call, v_x_sub_sub, v_l_nil, v_l_cons, v_b_one, v_o_none, v_o_some, v_f_nil, v_f_one, v_i_call1, v_i_call2, v_i_name, v_i_sub, v_i_bin, v_i_tup, v_i_list, v_i_comp, v_i_ife, v_i_meth, v_i_call0, v_i_call3, v_s_pass, v_s_cont, v_s_brk, v_s_ret, v_s_ret0, v_s_expr, v_s_asgTT, v_s_asgS, v_s_asgN, v_s_asgT_name, v_s_asgT_call, v_s_asgT_sub, v_s_asgT_bin, v_s_asgT_comp, v_s_asgT_ife, v_s_raise, v_bb_nil, v_x_not, v_x_neg, v_t_def, v_x_cmp2, v_x_if, v_b_and, v_b_or, v_s_if, v_bb_cons, v_s_for, v_ff_cons, v_s_while, v_wc_cons, v_rb_cons, v_compF, v_x_comp, v_x_compB, v_x_compV, v_x_compX, v_x_comp2, v_x_meth, v_callV, v_callD, v_callH, v_callI, v_callX, v_callIx, v_attr, v_callS, v_callB, brT_t, brT_f, brT_x, obB_s, gdB_t, cnt_l, cnt_s, slB_s, slC_g, andB_t, andB_f, orB_t, orB_f, c2B_t, c2B_f, seq_nx, seq_rt, seq_bk, seq_ct, seq_x, hnd_ok, hnd_x, bind_okR, bind_excR, lift_someR, Option.isSome_some, Option.isNone_none, Option.isNone_some, Option.isSome_none, slot_here, slot_next, slot_nil, fr_off, al_off, op_off, v_wip_nil, v_wip_cons, v_bT_name, v_bT_tup, v_bT_lst, v_bN_nil, v_bN_cons, v_g_call, v_g_callN, v_g_hnd, cst, frz_no, mkr_no, hnd_no, def_no, frz_on, mkr_on, hnd_on, def_on, isx_no, isx_on, icl_no, icl_on, inL, List.any_cons, List.any_nil, Nat.reduceBEq, Bool.and_false, Bool.false_and, Bool.or_false, Bool.or_self, Bool.and_true, Bool.true_and, Bool.or_true, Bool.true_or, Res.bind_bad, Res.lift_none, Option.map_some, Option.map_none, List.getElem?_cons_zero, List.getElem?_cons_succ, List.set_cons_zero, List.set_cons_succ, if_true, if_false, ↓reduceIte, Bool.not_true, Bool.not_false, List.map_cons, List.map_nil, List.length_cons, List.length_nil, List.cons_append, List.nil_append, List.replicate, Nat.reduceAdd, Nat.reduceSub, Nat.sub_self, Nat.zero_add, decide_true, decide_false, ownSl, List.filterMap_cons, List.filterMap_nil, ai_l, ai_t, cs_n, cs_b, cs_i, cs_s, cs_l, cs_t, o_add, o_sub, c_le, c_lt, c_gt, c_ge, c_eq_ii, c_ne_ii, c_eq_bb, c_ne_bb, c_eq_titi, c_ne_titi, c_eq_lili, c_ne_lili, as_l, as_t, it_l, it_t, sl_l, sl_t, bi_len_l, bi_len_t, bi_tup_l, bi_tup_t, bi_lst_l, bi_lst_t, nth_0, nth_1, nth_2, al_on, al_on0, o_rep2, o_rep3, o_rep4, o_rep7t, nrs_nil, nrs_cons, nr_n, nr_i, nr_b, nr_s, nr_l, nr_t, nr_ints, bi_int_i, bi_int_b, bi_all, bi_any, lv_b, lv_i, lv_n, lv_e, kd_n_int, kd_n_bool, kd_n_str, kd_n_list, kd_n_tuple, ci_n, cn_n, kd_b_int, kd_b_bool, kd_b_str, kd_b_list, kd_b_tuple, ci_b, cn_b, kd_i_int, kd_i_bool, kd_i_str, kd_i_list, kd_i_tuple, ci_i, cn_i, kd_s_int, kd_s_bool, kd_s_str, kd_s_list, kd_s_tuple, ci_s, cn_s, kd_l_int, kd_l_bool, kd_l_str, kd_l_list, kd_l_tuple, ci_l, cn_l, kd_t_int, kd_t_bool, kd_t_str, kd_t_list, kd_t_tuple, ci_t, cn_t, cst_no, cst_on]
  rw [compGo_filter (emb := PyData.int) (p := fun x => decide (0 - B40 < x) && decide (x < B40)) (h := PyData.int) (xs := ns) fun x hx => ?h]
  case h =>
    by_cases h1 : 0 - B40 < x <;> by_cases h2 : x < B40 <;> simp (config := {decide := true}) only [v_x_name, v_x_cst, v_x_tup, v_x_list, v_x_bin, v_x_bool, v_x_cmp, v_x_slice, v_x_rev, v_x_sub_name, v_x_sub_cst, v_x_sub_bin, v_x_sub_un, v_x_sub_call, v_x_sub_sub, v_l_nil, v_l_cons, v_b_one, v_o_none, v_o_some, v_f_nil, v_f_one, v_i_call1, v_i_call2, v_i_name, v_i_sub, v_i_bin, v_i_tup, v_i_list, v_i_comp, v_i_ife, v_i_meth, v_i_call0, v_i_call3, v_s_pass, v_s_cont, v_s_brk, v_s_ret, v_s_ret0, v_s_expr, v_s_asgTT, v_s_asgS, v_s_asgN, v_s_asgT_name, v_s_asgT_call, v_s_asgT_sub, v_s_asgT_bin, v_s_asgT_comp, v_s_asgT_ife, v_s_raise, v_bb_nil, v_x_not, v_x_neg, v_t_def, v_x_cmp2, v_x_if, v_b_and, v_b_or, v_s_if, v_bb_cons, v_s_for, v_ff_cons, v_s_while, v_wc_cons, v_rb_cons, v_compF, v_x_comp, v_x_compB, v_x_compV, v_x_compX, v_x_comp2, v_x_meth, v_callV, v_callD, v_callH, v_callI, v_callX, v_callIx, v_attr, v_callS, v_callB, brT_t, brT_f, brT_x, obB_s, gdB_t, cnt_l, cnt_s, slB_s, slC_g, andB_t, andB_f, orB_t, orB_f, c2B_t, c2B_f, seq_nx, seq_rt, seq_bk, seq_ct, seq_x, hnd_ok, hnd_x, bind_okR, bind_excR, lift_someR, Option.isSome_some, Option.isNone_none, Option.isNone_some, Option.isSome_none, slot_here, slot_next, slot_nil, fr_off, al_off, op_off, v_wip_nil, v_wip_cons, v_bT_name, v_bT_tup, v_bT_lst, v_bN_nil, v_bN_cons, v_g_call, v_g_callN, v_g_hnd, cst, frz_no, mkr_no, hnd_no, def_no, frz_on, mkr_on, hnd_on, def_on, isx_no, isx_on, icl_no, icl_on, inL, List.any_cons, List.any_nil, Nat.reduceBEq, Bool.and_false, Bool.false_and, Bool.or_false, Bool.or_self, Bool.and_true, Bool.true_and, Bool.or_true, Bool.true_or, Res.bind_bad, Res.lift_none, Option.map_some, Option.map_none, List.getElem?_cons_zero, List.getElem?_cons_succ, List.set_cons_zero, List.set_cons_succ, if_true, if_false, ↓reduceIte, Bool.not_true, Bool.not_false, List.map_cons, List.map_nil, List.length_cons, List.length_nil, List.cons_append, List.nil_append, List.replicate, Nat.reduceAdd, Nat.reduceSub, Nat.sub_self, Nat.zero_add, decide_true, decide_false, ownSl, List.filterMap_cons, List.filterMap_nil, ai_l, ai_t, cs_n, cs_b, cs_i, cs_s, cs_l, cs_t, o_add, o_sub, c_le, c_lt, c_gt, c_ge, c_eq_ii, c_ne_ii, c_eq_bb, c_ne_bb, c_eq_titi, c_ne_titi, c_eq_lili, c_ne_lili, as_l, as_t, it_l, it_t, sl_l, sl_t, bi_len_l, bi_len_t, bi_tup_l, bi_tup_t, bi_lst_l, bi_lst_t, nth_0, nth_1, nth_2, al_on, al_on0, o_rep2, o_rep3, o_rep4, o_rep7t, nrs_nil, nrs_cons, nr_n, nr_i, nr_b, nr_s, nr_l, nr_t, nr_ints, bi_int_i, bi_int_b, bi_all, bi_any, lv_b, lv_i, lv_n, lv_e, kd_n_int, kd_n_bool, kd_n_str, kd_n_list, kd_n_tuple, ci_n, cn_n, kd_b_int, kd_b_bool, kd_b_str, kd_b_list, kd_b_tuple, ci_b, cn_b, kd_i_int, kd_i_bool, kd_i_str, kd_i_list, kd_i_tuple, ci_i, cn_i, kd_s_int, kd_s_bool, kd_s_str, kd_s_list, kd_s_tuple, ci_s, cn_s, kd_l_int, kd_l_bool, kd_l_str, kd_l_list, kd_l_tuple, ci_l, cn_l, kd_t_int, kd_t_bool, kd_t_str, kd_t_list, kd_t_tuple, ci_t, cn_t, cst_no, cst_on, pw, h1, h2]
  have hl : (ns.filter fun x => decide (0 - B40 < x) && decide (x < B40)).length ≤ 63 := Nat.le_trans (List.length_filter_le ..) hn
  generalize ns.filter (fun x => decide (0 - B40 < x) && decide (x < B40)) = l at hl ⊢
  simp (config := {decide := true}) only [v_x_name, v_x_cst, v_x_tup, v_x_list, v_x_bin, v_x_bool, v_x_cmp, v_x_slice, v_x_rev, v_x_sub_name, v_x_sub_cst, v_x_sub_bin, v_x_sub_un, v_x_sub_call, v_x_sub_sub, v_l_nil, v_l_cons, v_b_one, v_o_none, v_o_some, v_f_nil, v_f_one, v_i_call1, v_i_call2, v_i_name, v_i_sub, v_i_bin, v_i_tup, v_i_list, v_i_comp, v_i_ife, v_i_meth, v_i_call0, v_i_call3, v_s_pass, v_s_cont, v_s_brk, v_s_ret, v_s_ret0, v_s_expr, v_s_asgTT, v_s_asgS, v_s_asgN, v_s_asgT_name, v_s_asgT_call, v_s_asgT_sub, v_s_asgT_bin, v_s_asgT_comp, v_s_asgT_ife, v_s_raise, v_bb_nil, v_x_not, v_x_neg, v_t_def, v_x_cmp2, v_x_if, v_b_and, v_b_or, v_s_if, v_bb_cons, v_s_for, v_ff_cons, v_s_while, v_wc_cons, v_rb_cons, v_compF, v_x_comp, v_x_compB, v_x_compV, v_x_compX, v_x_comp2, v_x_meth, v_callV, v_callD, v_callH, v_callI, v_callX, v_callIx, v_attr, v_callS, v_callB, brT_t, brT_f, brT_x, obB_s, gdB_t, cnt_l, cnt_s, slB_s, slC_g, andB_t, andB_f, orB_t, orB_f, c2B_t, c2B_f, seq_nx, seq_rt, seq_bk, seq_ct, seq_x, hnd_ok, hnd_x, bind_okR, bind_excR, lift_someR, Option.isSome_some, Option.isNone_none, Option.isNone_some, Option.isSome_none, slot_here, slot_next, slot_nil, fr_off, al_off, op_off, v_wip_nil, v_wip_cons, v_bT_name, v_bT_tup, v_bT_lst, v_bN_nil, v_bN_cons, v_g_call, v_g_callN, v_g_hnd, cst, frz_no, mkr_no, hnd_no, def_no, frz_on, mkr_on, hnd_on, def_on, isx_no, isx_on, icl_no, icl_on, inL, List.any_cons, List.any_nil, Nat.reduceBEq, Bool.and_false, Bool.false_and, Bool.or_false, Bool.or_self, Bool.and_true, Bool.true_and, Bool.or_true, Bool.true_or, Res.bind_bad, Res.lift_none, Option.map_some, Option.map_none, List.getElem?_cons_zero, List.getElem?_cons_succ, List.set_cons_zero, List.set_cons_succ, if_true, if_false, ↓reduceIte, Bool.not_true, Bool.not_false, List.map_cons, List.map_nil, List.length_cons, List.length_nil, List.cons_append, List.nil_append, List.replicate, Nat.reduceAdd, Nat.reduceSub, Nat.sub_self, Nat.zero_add, decide_true, decide_false, ownSl, List.filterMap_cons, List.filterMap_nil, ai_l, ai_t, cs_n, cs_b, cs_i, cs_s, cs_l, cs_t, o_add, o_sub, c_le, c_lt, c_gt, c_ge, c_eq_ii, c_ne_ii, c_eq_bb, c_ne_bb, c_eq_titi, c_ne_titi, c_eq_lili, c_ne_lili, as_l, as_t, it_l, it_t, sl_l, sl_t, bi_len_l, bi_len_t, bi_tup_l, bi_tup_t, bi_lst_l, bi_lst_t, nth_0, nth_1, nth_2, al_on, al_on0, o_rep2, o_rep3, o_rep4, o_rep7t, nrs_nil, nrs_cons, nr_n, nr_i, nr_b, nr_s, nr_l, nr_t, nr_ints, bi_int_i, bi_int_b, bi_all, bi_any, lv_b, lv_i, lv_n, lv_e, kd_n_int, kd_n_bool, kd_n_str, kd_n_list, kd_n_tuple, ci_n, cn_n, kd_b_int, kd_b_bool, kd_b_str, kd_b_list, kd_b_tuple, ci_b, cn_b, kd_i_int, kd_i_bool, kd_i_str, kd_i_list, kd_i_tuple, ci_i, cn_i, kd_s_int, kd_s_bool, kd_s_str, kd_s_list, kd_s_tuple, ci_s, cn_s, kd_l_int, kd_l_bool, kd_l_str, kd_l_list, kd_l_tuple, ci_l, cn_l, kd_t_int, kd_t_bool, kd_t_str, kd_t_list, kd_t_tuple, ci_t, cn_t, cst_no, cst_on, add40 hl]
  generalize hF : forGo _ _ _ _ = X
  have hX : ∃ ρ' st', X = .ok (.nx ρ') st' ∧ st' = [] ∧ ∃ d, ρ' = [some (.list (ns.map .int)), some some_, some (.int 14), d, none, none, none] := by
    rw [← hF]
    refine forGo_invN (emb := PyData.int) (xs := 40 :: l) (R := fun pre ρ st => st = [] ∧ ∃ d, ρ = [some (.list (ns.map .int)), some some_, some (.int 14), d, none, none, none]) ?_ ⟨rfl, none, rfl⟩
    clear hF
    rintro pre x post e ρ st ⟨rfl, d, rfl⟩
    simp (config := {decide := true}) only [v_x_name, v_x_cst, v_x_tup, v_x_list, v_x_bin, v_x_bool, v_x_cmp, v_x_slice, v_x_rev, v_x_sub_name, v_x_sub_cst, v_x_sub_bin, v_x_sub_un, v_x_sub_call, v_x_sub_sub, v_l_nil, v_l_cons, v_b_one, v_o_none, v_o_some, v_f_nil, v_f_one, v_i_call1, v_i_call2, v_i_name, v_i_sub, v_i_bin, v_i_tup, v_i_list, v_i_comp, v_i_ife, v_i_meth, v_i_call0, v_i_call3, v_s_pass, v_s_cont, v_s_brk, v_s_ret, v_s_ret0, v_s_expr, v_s_asgTT, v_s_asgS, v_s_asgN, v_s_asgT_name, v_s_asgT_call, v_s_asgT_sub, v_s_asgT_bin, v_s_asgT_comp, v_s_asgT_ife, v_s_raise, v_bb_nil, v_x_not, v_x_neg, v_t_def, v_x_cmp2, v_x_if, v_b_and, v_b_or, v_s_if, v_bb_cons, v_s_for, v_ff_cons, v_s_while, v_wc_cons, v_rb_cons, v_compF, v_x_comp, v_x_compB, v_x_compV, v_x_compX, v_x_comp2, v_x_meth, v_callV, v_callD, v_callH, v_callI, v_callX, v_callIx, v_attr, v_callS, v_callB, brT_t, brT_f, brT_x, obB_s, gdB_t, cnt_l, cnt_s, slB_s, slC_g, andB_t, andB_f, orB_t, orB_f, c2B_t, c2B_f, seq_nx, seq_rt, seq_bk, seq_ct, seq_x, hnd_ok, hnd_x, bind_okR, bind_excR, lift_someR, Option.isSome_some, Option.isNone_none, Option.isNone_some, Option.isSome_none, slot_here, slot_next, slot_nil, fr_off, al_off, op_off, v_wip_nil, v_wip_cons, v_bT_name, v_bT_tup, v_bT_lst, v_bN_nil, v_bN_cons, v_g_call, v_g_callN, v_g_hnd, cst, frz_no, mkr_no, hnd_no, def_no, frz_on, mkr_on, hnd_on, def_on, isx_no, isx_on, icl_no, icl_on, inL, List.any_cons, List.any_nil, Nat.reduceBEq, Bool.and_false, Bool.false_and, Bool.or_false, Bool.or_self, Bool.and_true, Bool.true_and, Bool.or_true, Bool.true_or, Res.bind_bad, Res.lift_none, Option.map_some, Option.map_none, List.getElem?_cons_zero, List.getElem?_cons_succ, List.set_cons_zero, List.set_cons_succ, if_true, if_false, ↓reduceIte, Bool.not_true, Bool.not_false, List.map_cons, List.map_nil, List.length_cons, List.length_nil, List.cons_append, List.nil_append, List.replicate, Nat.reduceAdd, Nat.reduceSub, Nat.sub_self, Nat.zero_add, decide_true, decide_false, ownSl, List.filterMap_cons, List.filterMap_nil, ai_l, ai_t, cs_n, cs_b, cs_i, cs_s, cs_l, cs_t, o_add, o_sub, c_le, c_lt, c_gt, c_ge, c_eq_ii, c_ne_ii, c_eq_bb, c_ne_bb, c_eq_titi, c_ne_titi, c_eq_lili, c_ne_lili, as_l, as_t, it_l, it_t, sl_l, sl_t, bi_len_l, bi_len_t, bi_tup_l, bi_tup_t, bi_lst_l, bi_lst_t, nth_0, nth_1, nth_2, al_on, al_on0, o_rep2, o_rep3, o_rep4, o_rep7t, nrs_nil, nrs_cons, nr_n, nr_i, nr_b, nr_s, nr_l, nr_t, nr_ints, bi_int_i, bi_int_b, bi_all, bi_any, lv_b, lv_i, lv_n, lv_e, kd_n_int, kd_n_bool, kd_n_str, kd_n_list, kd_n_tuple, ci_n, cn_n, kd_b_int, kd_b_bool, kd_b_str, kd_b_list, kd_b_tuple, ci_b, cn_b, kd_i_int, kd_i_bool, kd_i_str, kd_i_list, kd_i_tuple, ci_i, cn_i, kd_s_int, kd_s_bool, kd_s_str, kd_s_list, kd_s_tuple, ci_s, cn_s, kd_l_int, kd_l_bool, kd_l_str, kd_l_list, kd_l_tuple, ci_l, cn_l, kd_t_int, kd_t_bool, kd_t_str, kd_t_list, kd_t_tuple, ci_t, cn_t, cst_no, cst_on, g_xap, g_atf, g_at, ap_tm, at_tm, c_ne_ii]
    refine ⟨_, _, rfl, rfl, _, rfl⟩
  obtain ⟨_, st, rfl, rfl, d, rfl⟩ := hX
  exact ⟨d, rfl⟩
theorem k14_law (ns : List Int) (hn : ns.length ≤ 63) : callK M 31 "law" [.list (ns.map .int)] [] = .ok (.bool true) [] := by
  rw [callK_run (d := RowD.d ⟨top 20, "law", ["_law_script"], ["_law_script", "_law_some", "_law_at", "_law_cell", "_law_one", "_law_e", "_law_other"], false⟩) rfl, runD_off rfl rfl]
  obtain ⟨d, e3⟩ := s3 ns hn
  have e : execB (M.at 30).noH ["_law_script", "_law_some", "_law_at", "_law_cell", "_law_one", "_law_e", "_law_other"] FD lawB (startR ["_law_script", "_law_some", "_law_at", "_law_cell", "_law_one", "_law_e", "_law_other"] [.list (ns.map .int)]) [] = .ok (.rt (.bool true)) [] := by
    rw [lawB_eq, show FD = 95 + 1 + 1 + 1 + 1 + 1 from rfl, v_bb_cons]
    rw [show execS (M.at 30).noH ["_law_script", "_law_some", "_law_at", "_law_cell", "_law_one", "_law_e", "_law_other"] (95 + 1 + 1 + 1 + 1) (st_ 0) (startR ["_law_script", "_law_some", "_law_at", "_law_cell", "_law_one", "_law_e", "_law_other"] [.list (ns.map .int)]) [] = _ from s0 _, seq_nx, v_bb_cons]
    rw [show execS (M.at 30).noH ["_law_script", "_law_some", "_law_at", "_law_cell", "_law_one", "_law_e", "_law_other"] (95 + 1 + 1 + 1) (st_ 1) _ [] = _ from s1 _, seq_nx, v_bb_cons]
    rw [show execS (M.at 30).noH ["_law_script", "_law_some", "_law_at", "_law_cell", "_law_one", "_law_e", "_law_other"] (95 + 1 + 1) (st_ 2) _ [] = _ from s2 _, seq_nx, v_bb_cons]
    rw [show execS (M.at 30).noH ["_law_script", "_law_some", "_law_at", "_law_cell", "_law_one", "_law_e", "_law_other"] (95 + 1) (st_ 3) _ [] = _ from e3, seq_nx, v_bb_cons]
    rw [show execS (M.at 30).noH ["_law_script", "_law_some", "_law_at", "_law_cell", "_law_one", "_law_e", "_law_other"] 95 (st_ 4) _ [] = _ from s4 _ _ _ _ _ _ _, seq_rt]
  show leave ([] : Sto).length ((execB (M.at 30).noH ["_law_script", "_law_some", "_law_at", "_law_cell", "_law_one", "_law_e", "_law_other"] FD lawB (startR ["_law_script", "_law_some", "_law_at", "_law_cell", "_law_one", "_law_e", "_law_other"] [.list (ns.map .int)]) []).bind _) = _
  rw [e]
  rfl
theorem law_all : ∀ ns : List Int, ns.length ≤ 63 → (∀ z ∈ ns, Builtin.Int.intBits z ≤ 1048576) → ∃ st, callK M (30 + 1) "law" [.list (ns.map .int)] [] = .ok (.bool true) st := fun ns h _ => ⟨[], k14_law ns h⟩
end K14
set_option maxRecDepth 100000 in
set_option maxHeartbeats 8000000 in
theorem PySem.Challenge.cw_wheelinbalance_k14_classes_of_errors_holds : PySem.Challenge.rw_wheelinbalance_k14_classes_of_errors.Holds := by
  exact K14.holds_of K14.law_all
