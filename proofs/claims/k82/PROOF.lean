import PyProof.Rows.All
import Wide.All
import OpenK.AllK
import Wide.FinOn
import KE.KExcSuper
import KE.KExcInit
import HandS.ForMost
import HandS.ForExc
import HandS.ExcInit
import HandS.Defaults
import HandS.HeadWalk
import HandS.Lambda
import HandS.ExcField
import HandS.SortRule
import HandS.TupSets
import KE.GoesEnum
import HandS.TupMul
import HandS.Wide
import HandS.IsInst
import HandS.Style
import HandS.TupAny
import HandS.TupLe
import HandS.Property
import HandS.SlotsOwn
import HandS.Slots
import PyProof.ReprRoads
import HandS.CallLocal
import HandS.Head0
import HandS.Head1
import HandS.Head2
import HandS.HeadEnd
import HandS.HeadHook1
import HandS.HeadHook2
import HandS.HeadHook4
import KE.KStateDown
import PySem.Challenge.RW_turnseries_k82_errors_of_brackets
set_option Elab.async false
set_option linter.all false
set_option maxRecDepth 100000
set_option maxHeartbeats 4000000
namespace ExM
open PySem PySem.W PySem.Calls PyProof.Rows
/-! an own exception class over a built-in one, whose __init__ says super().__init__(p); self.fld = p -/
def supBody (b : List Stmt) (slf par fld : Str) : Bool := match b with
  | [.Expr (.Call (.Attribute (.Call (.Name sp _) [] [] _) ini _) [.Name p1 _] [] _) _, .Assign [.Attribute (.Name s1 _) f1 _] (.Name p2 _) _] =>
      decide (sp = "super") && decide (ini = "__init__") && decide (p1 = par) && decide (s1 = slf) && decide (f1 = fld) && decide (p2 = par)
  | _ => false
section
variable {prog : Program} {w : World} {M : Model} {A : Around} {E : Value → Shared → Prop} {h : Heap} {g : Array GenState} {d : Drawn} {t : Nat} {os : OsState} {B newId initId : String} {bmB : List Value} {K : Frag} {C : Addr}
/-- super() within such a def, with the heap told -/
theorem node_x {mg mb : Str → Option Value} {m : Str → Option Value} {q : Str} {scope : Scope} {L f x D cc cda : Addr} {fd : FuncData} {ar : Arg} {vs : Array Value} {file : Str} {tf : Tok} {oc ccl cl : Value} {od cdd cld : Option Addr} {osl ccs csl : Array (Option Value)} {cdD : ClassData} {ox : Obj} {odx : Option Obj} {p0 p1 : Pos} {attr : Str} {whole : Sem Value} {body : List Stmt} {Q : Value → Shared → Prop}
    (X : K.In h) (hns : h.Ns L m) (hg : h.Ns mainGlobals mg) (hb : h.Ns builtinsNs mb) (hbb : mb "super" = bootBuiltins "super")
    (hf : K.lookup f = some ⟨oc, od, .func fd, osl⟩) (hp : (fd.params.posonlyargs ++ fd.params.args).head? = some ar) (hv : m ar.arg = some (.ref x)) (I : InstAt h x ox C odx)
    (hcode : K.lookup cda = some ⟨ccl, cdd, .fields vs, ccs⟩) (hvs : vs[2]? = some (.str file tf)) (hfile : ((prog.main.file : Str) == file) = true)
    (hcell : K.lookup cc = some ⟨cl, cld, .cell (some (.ref D)), csl⟩) (hD : clsIn K D = some cdD) (hsub : mroIn K C (.ref D) = some true) (hsuper : mg "super" = none)
    (hat : (attr == ("__class__" : Str)) = false) (hks : scope.names.lookup ("super" : Str) = some .globalImplicit) (hkc : scope.names.lookup ("__class__" : Str) = some .free) (hka : scope.names.lookup ar.arg = some .local) (hk : scope.kind = .function)
    (htop : (prog.main.scope.names.lookup ("super" : Str)).isSome = false)
    (hq : ∀ h', h'.get? h.objs.size = some (ks_superObj D x C) → (∀ b o, h.get? b = some o → h'.get? b = some o) → Q (.ref h.objs.size) ⟨h', g, d, t, os⟩) :
    _root_.PySem.wpAt (model prog w) A (.func body (ksEnv q scope L f (.ref cda) cc)) (attributeBase (.Call (.Name "super" p0) [] [] p1) attr (ksEnv q scope L f (.ref cda) cc) whole) Q E ⟨h, g, d, t, os⟩ := by
  obtain ⟨oD, hD1, hD2⟩ : ∃ oD, h.get? D = some oD ∧ oD.data = .cls cdD := by
    unfold clsIn at hD
    split at hD
    · rename_i ho
      cases hD
      exact ⟨_, X _ _ ho, rfl⟩
    · cases hD
  refine ks_wpAt_super_base (env := ksEnv q scope L f (.ref cda) cc) hks hkc hat rfl (X _ _ hf) rfl hp rfl (X _ _ hcode) rfl hvs hfile htop ?_
  refine ks_loadName_global hk hks (loadGlobal_builtin (env := ksEnv q scope L f (.ref cda) cc) hg hsuper hb (hbb.trans (show bootBuiltins "super" = some (.type "super") by first | boot_by_name | rfl | kernel_rfl)) ⟨rfl, ?_⟩)
  refine wpAny_loadName_free hk hkc rfl ⟨_, X _ _ hcell, rfl⟩ ?_
  refine wpAny_loadName_local hk hka hns hv ?_
  refine ks_wpAny_isType_cls hD1 hD2 ⟨rfl, ?_⟩
  refine ks_wpAny_call_super hD1 hD2 I.at_ I.cls (fun c e => ?_) (looks_mroIn X hsub) (fun h' e k => hq h' e k)
  have := I.no
  unfold notCls at this
  rw [e] at this
  exact Bool.noConfusion this
/-- the built-in __init__ of a bound wrapper: the args are laid anew -/
theorem call_mw {u x t0 : Addr} {rest : List Value} {bm : List Value} {nm q : Str} {N : Addr} {bs : List Value} {hdct : Bool} {sn : List Str} {sub : List Value} {ab : Bool} {col : Option Bool} {dd : Option Addr} {k0 k1 k2 k3 k5 : Option Value} {Q : Value → Shared → Prop}
    (FB : ExcBaseFacts B newId initId bmB) (hC : h.get? C = some (excClassObj nm q C N bs bm hdct sn sub ab col dd k0 k1 k2 k3 k5 newId)) (he : h.get? x = some (HandSPX.excO C t0)) (hu : h.get? u = some (kxs_mw initId x)) (hz : rest.length ≤ sizeLine)
    (hq : ∀ h' t1, (∀ b o, b ≠ x → h.get? b = some o → h'.get? b = some o) → h'.get? x = some (HandSPX.excO C t1) → Q .none ⟨h', g, d, t, os⟩) : wpAny (model prog w) A (call (.ref u) rest) Q E ⟨h, g, d, t, os⟩ := by
  refine wpAny_call (codeAny_of_tree ?_)
  show wpAny _ A.in1 (callAny (.ref u) ⟨rest, []⟩) _ _ _
  simp only [callAny]
  refine wpAny_bind (wpAny_load hu ?_)
  simp only [kxs_mw, show (Value.type "method-wrapper" == Value.type "method" || Value.type "method-wrapper" == Value.type "builtin_function_or_method" || Value.type "method-wrapper" == Value.type "method-wrapper") = true by decide, if_true]
  refine KFB.if_so (by decide) ?_
  refine wpAny_bind (check_bound_init FB.toExcCallFacts hC he rfl ?_)
  refine wpAny_bind (wpAny_pure (wpAny_pure ?_))
  refine ⟨plainId_quiet FB.init.plain _, codeAny_builtin FB.initEntry ?_⟩
  rw [Around.under_plainId FB.init.plain _]
  exact exc_init_tree (cls := .ref C) (t0 := t0) (dv := none) (c2 := .none) (c3 := .none) (b4 := .bool false) he hz fun h' k e _ => hq h' _ k e
section
open Builtin Builtin.ObjectAttr
variable {R : Result → Shared → Prop} {hp : Heap}
/-- the first field of an exception, by any built-in base -/
theorem osa_first {name : Str} {tk : Tok} {v : Value} {x : Addr} {fv : Array Value} {cd : ClassData} (SF : StoreFacts B bmB "object.__setattr__" "object")
    (X : K.In hp) (hx : hp.get? x = some { cls := .ref C, data := .fields fv }) (hcd : clsIn K C = some cd) (hm : excTail bmB cd.mro = true) (hh : cd.hasDict = true) (ha : findIn K (.ref C) name = some none)
    (hq : ∀ h' tk' dx, (∀ b o, b ≠ x → hp.get? b = some o → h'.get? b = some o) → hp.objs.size ≤ dx → dx ≠ x → h'.get? x = some { cls := .ref C, dict := some dx, data := .fields fv } →
      h'.Ns1 dx (fun y => if y = name then some v else none) → R (.ok (.ret .none)) ⟨h', g, d, tk', os⟩) :
    codeAny (model prog w) A (.call (.builtin "object.__setattr__") ⟨[.ref x, .str name tk, v], []⟩) R ⟨hp, g, d, t, os⟩ := by
  have I : InstAt hp x { cls := .ref C, data := .fields fv } C none := ⟨hx, rfl, rfl, trivial⟩
  have S0 := F.store_object
  have hob : cd.mro.contains (.type "object") = true := (excTail_contains "object" _ hm).trans SF.hasOwner
  have ne : cd.mro.isEmpty = false := by
    cases e : cd.mro with
    | nil => rw [e] at hob; cases hob
    | cons => rfl
  have hxs : x ≠ hp.objs.size := Nat.ne_of_lt (Heap.lt_size hx)
  have sub : Looks (model prog w) hp (isInstance (.ref x) (.type "object")) true := I.type.andThen (looks_mroIn X (by unfold mroIn; rw [hcd, Option.bind_some, if_neg (by rw [ne]; decide), hob]))
  refine codeAny_call_builtin S0.slot.plain S0.entry (@check_slot (model prog w) _ _ ⟨hp, g, d, t, os⟩ "object.__setattr__" "object" "__setattr__" (.ref x) [.str name tk, v] [] _ S0.kind S0.split sub (S0.args (.ref x) (.str name tk) v) ?_)
  have hmr : Looks (model prog w) hp (mroOf (.ref C)) cd.mro := (looks_clsIn X hcd).andThen .now
  have L3 : Looks (model prog w) hp (storeTaker? none) none := .now
  have hcls : Looks (model prog w) hp (classData C) cd := looks_clsIn X hcd
  rw [osa_eq, refuse_eq]
  refine wpAny_bind (wpAny_bind (I.type.at (wpAny_bind (hmr.at ?_))))
  rw [excTail_pass _ (SF.passes _) _ hm]
  refine wpAny_pure (wpAny_bind (I.type.at (wpAny_bind ((looks_findIn X ha).at (wpAny_bind (L3.at ?_))))))
  show wpAny _ _ (storeInOwnDict (.ref x) (.ref C) (.str name tk) name v false) _ _ _
  obtain ⟨nm, bs, mro, ns, qn, hd, sn, sb, ab, col, del⟩ := cd
  dsimp only at hh
  subst hh
  unfold storeInOwnDict ownDictForStores
  repeat (first | with_reducible refine HandSPX.store_in_new ?_ ?_ | with_reducible refine wpAny_loadPart_at hx ?_ | with_reducible refine hcls.at ?_ | wp_step)
  · exact ⟨_, #[], _, (Heap.get?_update_ne _ _ _ _ hxs.symm).trans (Heap.get?_push_at rfl rfl), rfl, fun e he => absurd he (by simp), fun _ => rfl⟩
  · intro h' tk' hn' hs
    have hx₁ : (hp.push { cls := .type "dict", data := .dict #[] }).get? x = some { cls := .ref C, data := .fields fv } := Heap.get?_push_of_some _ hx
    refine hq h' tk' hp.objs.size (fun b o hb ho => ?_) (Nat.le_refl _) hxs.symm ?_ hn'
    · exact (hs.2 b (Nat.ne_of_lt (Heap.lt_size ho))).trans ((Heap.get?_update_ne _ _ _ _ hb).trans (Heap.get?_push_of_some _ ho))
    · exact (hs.2 x hxs).trans (Heap.get?_update_self _ hx₁ rfl)
end
end
end ExM

set_option Elab.async false
set_option linter.all false
set_option maxRecDepth 100000
set_option maxHeartbeats 1000000
namespace ExM
open PySem PySem.W PySem.Calls PyProof.Rows
/-- what the written part says of an own exception class of one kept value -/
structure OwnEx (P : Program) (K : Frag) (C : Addr) (fld : Str) (B newId initId : String) (bmB : List Value) (fI : Addr) : Prop where
  FB : ExcBaseFacts B newId initId bmB
  SF : StoreFacts B bmB "object.__setattr__" "object"
  KF : KxsFacts B initId
  exc : excInitIn K C bmB newId = true
  dict : ∃ cd, clsIn K C = some cd ∧ cd.hasDict = true ∧ excTail bmB cd.mro = true
  sup : ks_superIn K C C "__init__" = some (some (.builtin initId))
  subB : subIn K (.ref C) (.type B) = some true
  opq : nsIn K cStatics "thirdparty.any" = some none
  sa : findIn K (.ref C) "__setattr__" = some (some (.builtin "object.__setattr__"))
  no : findIn K (.ref C) fld = some none
  exC : subIn K (.ref C) (.type "BaseException") = some true
  tyC : typeIn K (.ref C) = some (.type "type")
  kC : keepIn K (.ref C) = true
  self : mroIn K C (.ref C) = some true
  iC : findIn K (.ref C) "__init__" = some (some (.ref fI))
  tI : typeIn K (.ref fI) = some (.type "function")
  fn : ∃ (oc ccl cl : Value) (od cdd cld an : Option Addr) (osl ccs csl : Array (Option Value)) (name qual : Str) (a1 a2 : Arg) (body : List Stmt) (scope : Scope) (kV doc pm ct : Value) (cda cc : Addr) (vs : Array Value) (file : Str) (tf : Tok),
    K.lookup fI = some ⟨oc, od, .func (ksFn name qual ⟨[], [a1, a2], none, [], [], none, []⟩ body scope .none kV doc pm an (.ref cda) ct cc), osl⟩ ∧ codeIn K (.ref cda) qual = true ∧
    K.lookup cda = some ⟨ccl, cdd, .fields vs, ccs⟩ ∧ vs[2]? = some (.str file tf) ∧ ((P.main.file : Str) == file) = true ∧ K.lookup cc = some ⟨cl, cld, .cell (some (.ref C)), csl⟩ ∧
    (∃ (p1 p2 p3 p4 p5 p6 p7 p8 p9 p10 : Pos), body = [.Expr (.Call (.Attribute (.Call (.Name "super" p1) [] [] p2) "__init__" p3) [.Name a2.arg p4] [] p5) p6, .Assign [.Attribute (.Name a1.arg p7) fld p8] (.Name a2.arg p9) p10] ∧ (p3.endLine == p5.line) = true) ∧
    a1.arg ≠ a2.arg ∧ (a1.arg == ("__debug__" : Str)) = false ∧ (a2.arg == ("__debug__" : Str)) = false ∧ scope.names.lookup a1.arg = some .local ∧ scope.names.lookup a2.arg = some .local ∧
    scope.names.lookup ("super" : Str) = some .globalImplicit ∧ scope.names.lookup ("__class__" : Str) = some .free ∧ scope.kind = .function ∧ scope.isCoroutine = false ∧ scope.isGenerator = false ∧ (∀ x ∈ scope.names, x.2 ≠ .cell)
  htop : (P.main.scope.names.lookup ("super" : Str)).isSome = false
section
variable {prog : Program} {w : World} {A : Around} {E : Value → Shared → Prop} {h : Heap} {g : Array GenState} {d : Drawn} {t : Nat} {os : OsState} {B newId initId : String} {bmB : List Value} {K : Frag} {C fI : Addr} {fld : Str}
theorem bind2 {name qual : Str} {a1 a2 : Arg} {body : List Stmt} {scope : Scope} {kV doc pm ct cdv : Value} {an : Option Addr} {cc : Addr} (a b : Value) (hne : a1.arg ≠ a2.arg) :
    bindArgs (ksFn name qual ⟨[], [a1, a2], none, [], [], none, []⟩ body scope .none kV doc pm an cdv ct cc) ⟨[a, b], []⟩ = pure [(a1.arg, a), (a2.arg, b)] := by
  have e1 : seqItems? Value.none = pure none := rfl
  have hps : (a2.arg == a1.arg) = false := by simpa using fun e : a2.arg = a1.arg => hne e.symm
  unfold bindArgs
  simp [ksFn, fnX, e1, List.zip, hps, List.lookup_cons, List.filterMap_cons]
theorem init_run (O : OwnEx prog K C fld B newId initId bmB fI) {x t0 : Addr} {u : Value} {mg mb : Str → Option Value} {R : Result → Shared → Prop} (hroom : A.depth < recursionLimit) (X : K.In h) (hg : h.Ns mainGlobals mg) (hb : h.Ns builtinsNs mb) (hbb : mb "super" = bootBuiltins "super") (hsup : mg "super" = none) (lim : h.NoLimit)
    (he : h.get? x = some (HandSPX.excO C t0)) (hxK : ∀ b o, K.lookup b = some o → b ≠ x)
    (hq : ∀ h' tk' t1 dx, (∀ b o, b ≠ x → h.get? b = some o → h'.get? b = some o) → h.objs.size ≤ dx → dx ≠ x → h'.get? x = some { cls := .ref C, dict := some dx, data := .fields #[.ref t1, .none, .none, .none, .bool false, .none] } →
      h'.Ns1 dx (fun y => if y = fld then some u else none) → R (.ok (.ret .none)) ⟨h', g, d, tk', os⟩) :
    codeAny (model prog w) A (.call (.ref fI) ⟨[.ref x, u], []⟩) R ⟨h, g, d, t, os⟩ := by
  obtain ⟨oc, ccl, cl, od, cdd, cld, an, osl, ccs, csl, name, qual, a1, a2, body, scope, kV, doc, pm, ct, cda, cc, vs, file, tf, hf, hcd, hcode, hvs, hfile, hcell, ⟨p1, p2, p3, p4, p5, p6, p7, p8, p9, p10, rfl, hline⟩, hne, hds, hdp, hls, hlp, hks, hkc, hk, hco, hgen, hnc⟩ := O.fn
  refine ks_codeAny_call_defAt (binds := [(a1.arg, .ref x), (a2.arg, u)]) hroom (X _ _ hf) rfl lim (codeRec_of X hcd) rfl (BindsTo.of_eq (bind2 _ _ hne)) hnc (fun y hy => ?_) (fun h1 hns k1 => ?_) hco hgen hk
  · simp only [List.mem_cons, List.not_mem_nil, or_false] at hy
    rcases hy with rfl | rfl
    · exact hls
    · exact hlp
  have hps : (a1.arg == a2.arg) = false := by simpa using hne
  have ms : ([(a1.arg, Value.ref x), (a2.arg, u)] : List (Str × Value)).reverse.lookup a1.arg = some (.ref x) := by
    show ([(a2.arg, u), (a1.arg, Value.ref x)] : List (Str × Value)).lookup a1.arg = _
    simp [List.lookup_cons, hps]
  have mp : ([(a1.arg, Value.ref x), (a2.arg, u)] : List (Str × Value)).reverse.lookup a2.arg = some u := by
    show ([(a2.arg, u), (a1.arg, Value.ref x)] : List (Str × Value)).lookup a2.arg = _
    simp [List.lookup_cons]
  have X1 := X.keeps k1
  have he1 := k1 _ _ he
  obtain ⟨cd, hcl, hhd, htl⟩ := O.dict
  have I1 : InstAt h1 x (HandSPX.excO C t0) C none := ⟨he1, rfl, rfl, trivial⟩
  refine ks_wpAt_execs_cons (ks_wpAt_Expr_any (ks_wpAt_MethodCall (pl := L2.plainOf _ _) ?_ (by
    show (do
      let ov ← attributeBase _ _ _ _
      standAt _
      methodCall _ _ _ _ _ ov _ _ _) = _
    congr 1
    funext ov
    congr 1
    funext _
    exact L2.mcall_line rfl hline)) (by
    show (scope.kind == .module && _) = false
    rw [hk] <;> rfl) (by rfl))
  refine node_x (prog := prog) X1 hns (hg.keeps k1) (hb.keeps k1) hbb hf rfl ms I1 hcode hvs hfile hcell hcl O.self hsup rfl hks hkc hls hk O.htop (fun h2 hso k2 => ?_)
  have X2 := X1.keeps k2
  have he2 := k2 _ _ he1
  have I2 : InstAt h2 x (HandSPX.excO C t0) C none := ⟨he2, rfl, rfl, trivial⟩
  have hsupm : alongIn K "__init__" ((cd.mro.dropWhile (· != .ref C)).drop 1) = some (some (.builtin initId)) := by
    have := O.sup
    unfold ks_superIn at this
    rw [hcl] at this
    exact this
  refine kxs_getMethod O.KF hso (looks_opaque X2 O.opq) (l₀ := cd.mro) (fun A Q E s k q => wpAny_bind ((looks_clsIn X2 hcl) A _ E s k (wpAny_pure q))) rfl X2 hsupm (I2.type.andThen (looks_subIn X2 O.subB)) (ks_ne X2 I2 hcl) rfl ?_
  have k3 : ∀ b o, h2.get? b = some o → (h2.push (kxs_mw initId x)).get? b = some o := fun b o e => Heap.get?_push_of_some _ e
  have hu : (h2.push (kxs_mw initId x)).get? h2.objs.size = some (kxs_mw initId x) := Heap.get?_push_at rfl rfl
  have ns3 := (hns.keeps k2).keeps k3
  refine kxs_callWith (i := initId) (x := x) rfl ?_
  show wpAny _ _ (evalArgs _ true ((false, eval (.Name a2.arg p4) _) :: []) []) _ _ _
  refine evalArgs_plain (spliced_cons (wpAny_Name (wpAny_loadName_local hk hlp ns3 mp ?_) hdp))
  refine spliced_nil ⟨hu, ?_⟩
  obtain ⟨nm, N', qn, bs, bm, hdct, sn, sub, ab, col, dd, k0, k1', k2', k3', k5, hC, hT⟩ := excInit_of (X2.keeps k3) O.exc
  refine call_mw O.FB hC (k3 _ _ he2) hu (by show 1 ≤ sizeLine; rw [sizeLine_eq]; omega) (fun h4 t4 k4 he4 => ?_)
  show _root_.PySem.wpAt _ _ _ (execs _ _) _ _ _
  refine wpAt_of_wpAny ?_
  have keep : ∀ b o, b ≠ x → h1.get? b = some o → h4.get? b = some o := fun b o hbx e => k4 b o hbx (k3 _ _ (k2 _ _ e))
  have xL : x ≠ h.objs.size := Nat.ne_of_lt (Heap.lt_size he)
  have ns4 : h4.Ns h.objs.size fun y => ([(a1.arg, Value.ref x), (a2.arg, u)] : List (Str × Value)).reverse.lookup y := by
    obtain ⟨o, es, ep, e, r⟩ := ns3
    exact ⟨o, es, ep, k4 _ _ (Ne.symm xL) e, r⟩
  have X4 : K.In h4 := fun b o e => keep b o (hxK b o e) (X1 b o e)
  · rw [execs_cons]
    refine wpAny_bind (plainObj_wpAny_Assign_Attribute (wpAny_Name (wpAny_loadName_local hk hlp ns4 mp ?_) hdp) (by rfl))
    refine wpAny_Name (wpAny_loadName_local hk hls ns4 ms ?_) hds
    refine set_plain X4 (ox := HandSPX.excO C t4) (od := none) ⟨he4, rfl, rfl, trivial⟩ O.sa ?_
    refine osa_first O.SF X4 he4 hcl htl hhd O.no (fun h5 tk5 dx k5 hdx hne5 he5 hns5 => ?_)
    show wpAny _ _ (execs [] _) _ _ _
    refine wpAny_execs_nil ?_
    refine hq h5 tk5 t4 dx (fun b o hbx e => k5 b o hbx (keep b o hbx (k1 _ _ e))) ?_ hne5 he5 hns5
    obtain ⟨o, es, ep, e, r⟩ := ns4
    exact Nat.le_of_lt (Nat.lt_of_lt_of_le (Heap.lt_size e) hdx)
end
end ExM

set_option Elab.async false
set_option linter.all false
set_option maxRecDepth 100000
set_option maxHeartbeats 1000000
namespace ExM
open PySem PySem.Spec PySem.Calls PyProof.Rows L2
def oneV (R : V → Hp → Prop) (vs : List V) (H : Hp) : Prop := match vs with
  | [y] => R y H
  | _ => False
section
variable {X : Cx} {C fI : Addr} {fld : Str} {B newId initId : String} {bmB : List Value} {e : Expr} {te : TE} {x : Str} {p pos : Pos}
/-- the heap behind C(u): the exception at a (new), its dict at dx (new) -/
structure Laid (hp h' : Heap) (a dx C : Addr) (fld : Str) (u : Value) : Prop where
  keep : ∀ b o, hp.get? b = some o → h'.get? b = some o
  new : hp.objs.size ≤ a
  newd : hp.objs.size ≤ dx
  ne : dx ≠ a
  at_ : ∃ t1 : Addr, h'.get? a = some { cls := .ref C, dict := some dx, data := .fields #[.ref t1, .none, .none, .none, .bool false, .none] }
  ns : h'.Ns1 dx (fun y => if y = fld then some u else none)
theorem laid_mk {pins : List (Addr × Obj)} {σ : L2.St} {H1 : Hp} {Q : XK} {s1 s2 : Shared} {a dx : Addr} {u : Value} {y : V} (T : Raises X (.ref C)) (I1 : Inv X pins σ H1 s1) (L : Laid s1.heap s2.heap a dx C fld u) (hg : s2.gens = s1.gens) (ho : s2.os = s1.os) (ry : RelV y u)
    (q : ∀ dx, H1 dx = none → Q (.ref C) (some dx) (upd H1 dx (.xd [(fld, y)]))) : MkP X pins σ Q (.ref a) s2 := by
  obtain ⟨t1, hat⟩ := L.at_
  obtain ⟨G, g1, g2⟩ := restrict s2.heap fun b => decide (b ≠ a)
  have gk : ∀ b, b ≠ a → G.get? b = s2.heap.get? b := fun b hb => g1 b (decide_eq_true hb)
  have ge : G.get? a = none := g2 a (by simp)
  have kk : ∀ b o, s1.heap.get? b = some o → G.get? b = some o := fun b o z => by
    rw [gk b (Nat.ne_of_lt (Nat.lt_of_lt_of_le (Heap.lt_size z) L.new))]
    exact L.keep b o z
  have hd : H1 dx = none := I1.hok.fresh L.newd
  have ha : H1 a = none := I1.hok.fresh L.new
  have ok : ObjOk X.prog X.w (upd H1 dx (.xd [(fld, y)])) G dx (.xd [(fld, y)]) := by
    refine ⟨_, L.ns.at fun o z => (gk dx L.ne).trans z, fun f => ?_⟩
    show RelO (([(fld, y)] : List (Str × V)).lookup f) (if f = fld then some u else none)
    by_cases hf : f = fld
    · subst hf
      rw [if_pos rfl, List.lookup_cons_self]
      exact ry
    · have e : (f == fld) = false := by simpa using hf
      rw [if_neg hf, List.lookup_cons, e]
      exact True.intro
  have J := I1.laid (t' := s2.toks) (a := dx) (o := .xd [(fld, y)]) (h' := G) kk L.newd ok
  have gens : AllBare s2.gens := by rw [hg]; exact I1.bare
  refine ⟨a, _, _, { s1 with heap := G, toks := s2.toks }, _, .ref C, some dx, rfl, J, fun b o z => ?_, ge, hat, ⟨rfl, rfl⟩, rfl, rfl, ?_, ho, gens, T, q dx hd⟩
  · by_cases hba : b = a
    · rw [hba] at z
      have z : G.get? a = some o := z
      rw [ge] at z
      cases z
    · exact (gk b hba).symm.trans z
  · rw [upd_ne (Ne.symm L.ne)]
    exact ha
/-- C(e), in a raise -/
theorem pmk_init (O : OwnEx X.prog X.K C fld B newId initId bmB fI) (hr : Room 2 X.A) (hsup : X.mg "super" = none) (hg : Gl X x) (gC : X.mg x = some (.ref C)) (ha : PE X e te)
    (hdb : (x == ("__debug__" : Str)) = false) (he : starEach [e] X.env = (false, eval e X.env) :: starEach [] X.env) :
    PMk X (.Call (.Name x p) [e] [] pos) (fun σ H Q => te σ H fun y H1 => ∀ dx, H1 dx = none → Q (.ref C) (some dx) (upd H1 dx (.xd [(fld, y)]))) := by
  intro pins s σ H Q I h
  refine wpAny_Call_Name_kw (ld_glob I hg gC ?_ hdb)
  have hA : PA X [e] (tCons te tNil) := pa_cons ha pa_nil he
  refine PySem.W.callWith_K (h₀ := X.base) I.ok.mod.kin O.kC (thn (hA.run pos pins s σ H (oneV fun y H1 => ∀ dx, H1 dx = none → Q (.ref C) (some dx) (upd H1 dx (.xd [(fld, y)]))) I h) fun us s1 hh => ?_) he rfl
  obtain ⟨vs, H1, I1, r1, q⟩ := hh
  refine ⟨I1.kIn, ?_⟩
  cases r1 with
  | nil => exact False.elim q
  | cons ry r1 =>
    cases r1 with
    | cons => exact False.elim q
    | nil =>
      rename_i y u
      have q : ∀ dx, H1 dx = none → Q (.ref C) (some dx) (upd H1 dx (.xd [(fld, y)])) := q
      obtain ⟨hp, g, dr, tk, os⟩ := s1
      obtain ⟨nm, N', qn, bs, bm, hdct, sn, sub, ab, col, dd, k0, k1, k2, k3, k5, hC, hT⟩ := PySem.W.excInit_of I1.kIn O.exc
      have kk : ∀ b o, hp.get? b = some o → ((hp.push (PySem.W.kdv_tup [u])).push (PySem.HandSPX.excO C hp.objs.size)).get? b = some o := fun b o e => Heap.get?_push_of_some _ (Heap.get?_push_of_some _ e)
      have hget : ((hp.push (PySem.W.kdv_tup [u])).push (PySem.HandSPX.excO C hp.objs.size)).get? (hp.objs.size + 1) = some (PySem.HandSPX.excO C hp.objs.size) := by heap_get
      obtain ⟨mb, b1, b2⟩ := I1.mod.blt
      refine wpAny_call (PySem.HandSPX.call_own O.FB hT hC (PySem.W.looks_findIn I1.kIn O.iC) (fun self => PySem.W.bind_fn I1.kIn self O.tI) (by show 1 ≤ sizeLine; rw [sizeLine_eq]; omega) ?_)
      refine init_run (mg := X.mg) (mb := mb) O (hr.make C [u] []).depth (I1.kIn.keeps kk) ((I1.mod.glob.keeps I1.bk).keeps kk) ((b1.keeps I1.bk).keeps kk) (b2 _ (by decide)) hsup (I1.nolimit.keeps kk) hget
        (fun b o e z => by
          have h1 : b < hp.objs.size := Heap.lt_size (I1.kIn b o e)
          rw [z] at h1
          exact absurd h1 (Nat.not_lt.mpr (Nat.le_succ _))) (fun h' tk' t1 dx k5 hdx hne he5 hns => ?_)
      have hdx' : hp.objs.size + 2 ≤ dx := by
        rw [Heap.size_push, Heap.size_push] at hdx
        exact hdx
      have L : Laid hp h' (hp.objs.size + 1) dx C fld u := ⟨fun b o z => k5 b o (Nat.ne_of_lt (Nat.lt_succ_of_lt (Heap.lt_size z))) (kk b o z), Nat.le_succ _, by omega, hne, ⟨t1, he5⟩, hns⟩
      exact ⟨rfl, laid_mk (s1 := ⟨hp, g, dr, tk, os⟩) (s2 := ⟨h', g, dr, tk', os⟩) (raises_own O.exC O.tyC) I1 L rfl rfl ry q⟩
end
end ExM

set_option Elab.async false
set_option linter.all false
set_option maxRecDepth 100000
set_option maxHeartbeats 1000000
namespace TrM
open PySem PySem.Spec PyProof.Rows L2
/-! several clauses, each with a name or none -/
def asEnds (D : Ends) (i : Nat) : Ends := { nx := fun σ' H' => D.nx (σ'.set i none) H', rt := D.rt, bk := fun σ' H' => D.bk (σ'.set i none) H', ct := fun σ' H' => D.ct (σ'.set i none) H' }
structure Clause where
  c : Value
  io : Option Nat
  ts : Addr → Value → Option Addr → TS
def Clause.takes (k : Clause) (D : Ends) (a : Addr) (cls : Value) (d : Option Addr) (σ : L2.St) (H : Hp) : Prop := match k.io with
  | none => k.ts a cls d D σ H
  | some i => k.ts a cls d (asEnds D i) (σ.set i (some (.ref a))) H
def wAny (K : PySem.W.Frag) (nN : Nat) (Wout : WX) (D : Ends) : List Clause → WX
  | [] => Wout
  | k :: r => fun cls d σ H => ∃ b, PySem.W.exmOne K cls k.c = some b ∧ (b = true → ∀ a, H a = none → σ.length = nN → k.takes D a cls d σ H) ∧ (b = false → wAny K nN Wout D r cls d σ H)
def NameOk (X : Cx) : Option Str → Option Nat → Prop
  | none, none => True
  | some n, some i => X.N[i]? = some n ∧ X.env.kindOf n = some .local
  | _, _ => False
inductive ClOk (X : Cx) : List ExceptHandler → List Clause → Prop
  | nil : ClOk X [] []
  | cons {x : Str} {k : Clause} {no : Option Str} {b0 : Stmt} {suite : List Stmt} {np pos' : Pos} {hds : List ExceptHandler} {l : List Clause} (hc : Names X x k.c) (hn : NameOk X no k.io)
      (hsu : ∀ (a : Addr) (oe : Obj) (cls : Value) (d : Option Addr) (pn : List (Addr × Obj)), Zc cls d oe → (∃ vs, oe.data = .fields vs) → PSs (X.suite a ((a, oe) :: pn)) (b0 :: suite) (k.ts a cls d)) (r : ClOk X hds l) :
      ClOk X (.ExceptHandler (some (.Name x np)) no (b0 :: suite) pos' :: hds) (k :: l)
section
variable {X : Cx} {body : List Stmt} {h₀ : ExceptHandler} {hds : List ExceptHandler} {l : List Clause} {pos : Pos} {tb : WX → TS} {Wout : WX}
theorem ps_try_any (hs : X.stack = X.env :: X.outer) (hf : X.env.frame = some X.env.locals) (hN : X.N.Nodup) (tk : Takes X Wout)
    (hb : ∀ (W : WX) (pn : List (Addr × Obj)) (xe : Value → Shared → Prop), Takes (X.tr pn xe) W → PassesOwn (model X.prog X.w) X.A X.env xe → PSs (X.tr pn xe) body (tb W))
    (hh : ClOk X (h₀ :: hds) l) : PS X (.Try body (h₀ :: hds) [] [] pos) (fun D σ H => tb (wAny X.K X.N.length Wout D l) D σ H) := by
  refine ⟨fun pins s σ H D I h => ?_⟩
  have ok := I.ok
  have hfr : X.A.frames = some (X.env :: X.outer) := by rw [ok.frames, hs]
  refine wpAny_Try_except (wpAny_mono ((hb (wAny X.K X.N.length Wout D l) (X.pn ++ pins) (fun e s₁ => wpAny (model X.prog X.w) X.A (noteFrame e X.env) (fun _ s₂ => wpAny (model X.prog X.w) X.A (setFlight e none) (fun _ s₃ =>
    wpAny (model X.prog X.w) X.A (handleBy e X.env (h₀ :: hds)) (SP X pins D) X.xe s₃) X.xe s₂) X.xe s₁) (fun u s' xx => ?_) PassesOwn.looking).run [] s σ H D (I.toTry _) h) (fun f s1 hsp => ?_) (fun e s1 he => he))
  · obtain ⟨a, B, sI, pins', σ', H', cls, d, rfl, J', nb, up, sky, na, os, ag, wv⟩ := xx
    have J : Inv X pins σ' H' sI := J'.ofTry ok
    rw [show (X.tr (X.pn ++ pins) _).stack = X.env :: X.outer from hs] at sky
    refine Sky.land Zc.steady hfr hf sky fun h3 fl3 up3 => ?_
    have up13 := up.trans up3
    have J3 : Inv X pins σ' H' { s' with heap := h3 } := J.landed nb fl3.1 up13 os ag
    obtain ⟨oe3, vs3, he3, hz3, hd3⟩ := fl3.there
    have nfr : a ∉ frs (X.env :: X.outer) := fun hm => by
      obtain ⟨_, o', e', hnf⟩ := fl3.2.2.1.mem hm
      rw [he3] at e'; cases e'
      exact hnf _ hd3
    have nL : a ≠ X.env.locals := fun z => nfr (List.mem_filterMap.mpr ⟨X.env, List.mem_cons_self, by rw [hf, z]⟩)
    have nF : a ∉ X.fs := fun hm => by
      obtain ⟨e, he, q⟩ := List.mem_filterMap.mp hm
      exact nfr (List.mem_filterMap.mpr ⟨e, List.mem_cons_of_mem _ he, q⟩)
    have S3 := J3.suite he3 hd3 na nL nF
    have walk : ∀ {hds' : List ExceptHandler} {l' : List Clause}, ClOk X hds' l' → wAny X.K X.N.length Wout D l' cls d σ' H' →
        wpAny (model X.prog X.w) X.A (handleBy (.ref a) X.env hds') (SP X pins D) X.xe { s' with heap := h3 } := by
      intro hds' l' hk
      induction hk with
      | nil =>
        intro wv
        refine wpAny_handleBy_nil ?_
        obtain ⟨_, _, _, oe, vs, T, oT, ts', he, hz, hd, h1, hr⟩ := id fl3
        unfold PySem.passOn
        refine wpAny_bind (wpAny_field he hd h1 ?_)
        rw [if_neg (show ¬ ((Value.ref T == Value.none) = true) from by simp)]
        have fin : wpAny (model X.prog X.w) X.A (setFlight (.ref a) X.env.frame) (fun _ s4 => wpAny (model X.prog X.w) X.A (throw (.ref a) : Sem Flow) (SP X pins D) X.xe s4) X.xe { s' with heap := h3 } := by
          rw [hf]
          refine HandSPX.setFlight_upZ fl3 fun h4 hh4 up4 => wpAny_throw (tk _ _ ?_)
          exact ⟨a, B, sI, pins, σ', H', cls, d, rfl, J, nb, up13.trans up4, .inr (.inr (by rw [hs]; exact hh4)), na, os, ag, wv⟩
        first
          | exact wpAny_bind (wpAny_pure (wpAny_bind fin))
          | exact wpAny_bind fin
      | @cons x k no b0 suite np pos' hds2 l2 hc hn hsu r ih =>
        intro ⟨b, hb1, hyes, hno⟩
        refine wpAny_handleBy_cons (codeAny_handlers_test ?_) (by intro q; cases q)
        have LT : PySem.W.Looks (model X.prog X.w) h3 (typeOf (.ref a)) cls := fun A Q E s k q => wpAny_typeOf_ref (k _ _ he3) (by rw [hz3.1]; exact q)
        have LM := PySem.W.exm_one (M := model X.prog X.w) (J3.kIn) LT hb1
        have test : ∀ {Q : Value → Shared → Prop} {E : Value → Shared → Prop}, Q k.c { s' with heap := h3 } → wpAny (model X.prog X.w) (X.A.mark (some (.ref a))) (eval (.Name x np) X.env) Q E { s' with heap := h3 } := fun {Q E} q => by
          obtain ⟨hg, hdbg, hm | ⟨hm, hv, hnn⟩⟩ := hc
          · exact ld_glob (X := X.suite a ((a, oe3) :: (X.pn ++ pins))) S3 hg hm q hdbg
          · exact ld_blt (X := X.suite a ((a, oe3) :: (X.pn ++ pins))) S3 hg hm hv q hnn hdbg
        refine test (LM.here ?_)
        have suite_at : ∀ h4, HandSPX.FlyingZ B (X.env :: X.outer) a (Zc cls d) h4 → s'.heap.UpToSlots h4 → ∃ oe4, Zc cls d oe4 ∧ (∃ vs, oe4.data = .fields vs) ∧ Inv (X.suite a ((a, oe4) :: (X.pn ++ pins))) [] σ' H' { s' with heap := h4 } := fun h4 fl4 u4 => by
          have J4 : Inv X pins σ' H' { s' with heap := h4 } := J.landed nb fl4.1 (up.trans u4) os ag
          obtain ⟨oe4, vs4, he4, hz4, hd4⟩ := fl4.there
          exact ⟨oe4, hz4, ⟨_, hd4⟩, J4.suite he4 hd4 na nL nF⟩
        cases b with
        | false => exact ih (hno rfl)
        | true =>
          have tk1 := hyes rfl a na J.len
          unfold Clause.takes at tk1
          cases no with
          | none =>
            cases hio : k.io with
            | some i => rw [hio] at hn; exact hn.elim
            | none =>
              rw [hio] at tk1
              refine codeAny_handlers_suite (HandSPX.lands_againZ fl3 fun h4 fl4 up4 => ?_)
              obtain ⟨oe4, hz4, hd4, S4⟩ := suite_at h4 fl4 (up3.trans up4)
              refine wpAny_mono ((hsu a oe4 cls d (X.pn ++ pins) hz4 hd4).run [] _ _ H' _ S4 tk1) (fun f s6 hsp => ?_) (fun _ _ z => False.elim z)
              cases f with
              | next => obtain ⟨_, _, S6, q6⟩ := hsp; exact ⟨_, _, S6.unsuite ok, q6⟩
              | brk => obtain ⟨_, _, S6, q6⟩ := hsp; exact ⟨_, _, S6.unsuite ok, q6⟩
              | cont => obtain ⟨_, _, S6, q6⟩ := hsp; exact ⟨_, _, S6.unsuite ok, q6⟩
              | ret u => obtain ⟨_, _, _, S6, r6, q6⟩ := hsp; exact ⟨_, _, _, S6.unsuite ok, r6, q6⟩
          | some nm =>
            cases hio : k.io with
            | none => rw [hio] at hn; exact hn.elim
            | some i =>
              rw [hio] at tk1 hn
              obtain ⟨hi, hln⟩ := hn
              refine codeAny_handlers_suite_as (HandSPX.lands_againZ fl3 fun h4 fl4 up4 => ?_)
              obtain ⟨oe4, hz4, hd4, S4⟩ := suite_at h4 fl4 (up3.trans up4)
              refine store_ok (X := X.suite a ((a, oe4) :: (X.pn ++ pins))) (v := .ref a) S4 hN hi (.inl hln) rfl (fun s5 S5 => ?_) (.inr hln)
              refine wpAny_mono ((hsu a oe4 cls d (X.pn ++ pins) hz4 hd4).run [] s5 _ H' _ S5 tk1) (fun f s6 hsp => ?_) (fun _ _ z => False.elim z)
              have end_ : ∀ {σ6 : L2.St} {H6 : Hp} {Q : Shared → Prop}, Inv (X.suite a ((a, oe4) :: (X.pn ++ pins))) [] σ6 H6 s6 → (∀ s7, Inv X pins (σ6.set i none) H6 s7 → Q s7) →
                  wpAny (model X.prog X.w) X.A (do bindName X.env nm .none; unbindBehindTheSuite X.env nm pos') (fun _ s7 => Q s7) X.xe s6 := fun {σ6 H6 Q} S6 hq => gone_ok (S6.unsuite ok) hN hi hln hq
              cases f with
              | next => obtain ⟨_, _, S6, q6⟩ := hsp; exact end_ S6 fun s7 J7 => ⟨_, _, J7, q6⟩
              | brk => obtain ⟨_, _, S6, q6⟩ := hsp; exact end_ S6 fun s7 J7 => ⟨_, _, J7, q6⟩
              | cont => obtain ⟨_, _, S6, q6⟩ := hsp; exact end_ S6 fun s7 J7 => ⟨_, _, J7, q6⟩
              | ret u => obtain ⟨_, _, _, S6, r6, q6⟩ := hsp; exact end_ S6 fun s7 J7 => ⟨_, _, _, J7, r6, q6⟩
    exact walk hh wv
  · cases f with
    | next => obtain ⟨_, _, J', q⟩ := hsp; exact wpAny_execs_nil ⟨_, _, J'.ofTry ok, q⟩
    | brk => obtain ⟨_, _, J', q⟩ := hsp; exact ⟨_, _, J'.ofTry ok, q⟩
    | cont => obtain ⟨_, _, J', q⟩ := hsp; exact ⟨_, _, J'.ofTry ok, q⟩
    | ret u => obtain ⟨_, _, _, J', r, q⟩ := hsp; exact ⟨_, _, _, J'.ofTry ok, r, q⟩
end
end TrM

set_option Elab.async false
set_option linter.all false
set_option maxRecDepth 100000
set_option maxHeartbeats 1000000
namespace TrM
open PySem PySem.Spec PyProof.Rows L2 LamX
section
variable {X : Cx} {pins : List (Addr × Obj)} {σ : L2.St} {H : Hp} {s : Shared}
/-- x(), in the def that got the lambda; the guards of the maker's place are told to the body -/
theorem act_g {Eg : XK} {CXg : CXT} {Ng : List Str} {qg : Str} {sg : Scope} {g f c' : Addr} {cdg pm ctv : Value} {params : Arguments} {body : Expr} {scope : Scope} {k i : Nat} {a : Str} {pn : List (Addr × Obj)} {xe : Value → Shared → Prop} {W : WX} {E : XK} {tb : TE} {p1 p2 : Pos}
    (I : Inv X pins σ H s) (L : LamS X.env.scope scope) (hf : s.heap.get? f = some (PySem.W.kla_obj "<lambda>" (X.env.qual ++ "<lambda>") params body scope (cloFrom X.env.cells scope.names []) pm c' ctv)) (hfn : H f = none) (hfr : f ∉ frs X.stack)
    (hbind : bindArgs (PySem.W.kla_fn "<lambda>" (X.env.qual ++ "<lambda>") params body scope (cloFrom X.env.cells scope.names []) pm (.ref c') ctv) ⟨[], []⟩ = pure [])
    (tk : Takes ((cxOf CXg X.prog X.w X.K X.mg X.base Ng qg sg g cdg X.A X.stack s H Eg).tr pn xe) W) (hW : ∀ cls d σ' H', E cls d H' → W cls d σ' H') (hr : Room (k + 1) (X.A.deeper (envOfC qg sg s.heap.objs.size g cdg)))
    (hbody : ∀ (A : Around) (outer : List PySem.Env) (s : Shared) (H : Hp), A.guards = X.A.guards → Room k (A.deeper (lamEnv X scope s.heap.objs.size f c')) → PE (lamCx X A outer s H E scope f c') body tb)
    (hN : Ng[i]? = some a) (hv : Vis sg a) (hd : (a == ("__debug__" : Str)) = false) (hcd : (a == ("__classdict__" : Str)) = false) :
    PE ((cxOf CXg X.prog X.w X.K X.mg X.base Ng qg sg g cdg X.A X.stack s H Eg).tr pn xe) (.Call (.Name a p1) [] [] p2)
      (fun σZ HZ Q => σZ[i]? = some (some (.ref f)) ∧ HZ c' = some (CodeO c' (X.env.qual ++ "<lambda>")) ∧ tb σ HZ Q) := by
  refine ⟨fun pinsZ sZ σZ HZ Q IZ ⟨hs, hc, ht⟩ => ?_⟩
  refine wpAny_Call_Name_kw (thn ((pe_var (pos := p1) (i := i) hN hv hd hcd).run pinsZ sZ σZ HZ (fun v H1 => v = .ref f ∧ H1 = HZ) IZ ⟨.ref f, hs, rfl, rfl⟩) fun u s1 ⟨v, H1, I1, r1, q1⟩ => ?_)
  obtain ⟨ev, eH⟩ := q1
  subst ev
  rw [eH] at I1
  obtain rfl : u = Value.ref f := r1
  have un : Un (frs X.stack) [] H HZ s.heap s1.heap := I1.base
  have of1 := un.keep f _ hf hfn hfr (fun z => nomatch (show f ∈ ([] : List Addr) from z))
  refine PySem.W.callWith_F0 ⟨_, _, _, _, of1⟩ ?_
  obtain ⟨⟨oc, vs, t, hoc, hdc, hvc⟩, _, _⟩ := I1.hok c' _ hc
  have rc : codeAny (model X.prog X.w) (X.A.deeper (envOfC qg sg s.heap.objs.size g cdg)) (.call (.ref f) ⟨[], []⟩) (CR (L2.CX X.prog X.w) (envOfC qg sg s.heap.objs.size g cdg :: X.stack) X.prog X.w HZ s1 Q E) s1 := by
    refine PySem.W.kla_callFunE hr.depth of1 rfl L.co L.gen rfl ⟨c', oc, vs, t, rfl, hoc, hdc, hvc⟩ ?_
    rw [hbind]
    refine wpAny_pure (wpAny_newFunctionEnv (fun y hy => (L.own y hy).2) (fun y hy => absurd hy (by simp)) (fun h₁ hns hsb => ⟨I1.nolimit.fresh _ hsb, ?_⟩) L.kind)
    have kp : ∀ b o, s1.heap.get? b = some o → h₁.get? b = some o := fun b o e => hsb.extBut b o (Nat.ne_of_lt (Heap.lt_size e)) (Heap.get?_push_of_some _ e)
    have J : Inv (lamCx X (X.A.deeper (envOfC qg sg s.heap.objs.size g cdg)) (envOfC qg sg s.heap.objs.size g cdg :: X.stack) s1 HZ E scope f c') [] σ HZ { s1 with heap := h₁, toks := s1.toks + ([] : List (Str × Value)).length } :=
      lam_start2 I L I1.env0 hr.hd un hns kp
    refine PySem.W.kla_codeExpr (wpAny_mono ((hbody (X.A.deeper (envOfC qg sg s.heap.objs.size g cdg)) _ s1 HZ rfl (hr.deeper _)).run [] _ _ HZ Q J ht) (fun v s' hq => ?_) fun e s' hq => hq)
    obtain ⟨w', H', J', rv, q⟩ := hq
    exact ⟨w', H', J'.os, J'.bare, J'.base, J'.hok, rv, q⟩
  refine wpAny_call (codeAny_mono rc fun r s' hq => ?_)
  cases r with
  | error e => exact passes_call tk hW pinsZ σZ HZ s1 e s' I1 hq
  | ok fl =>
    cases fl with
    | ret u => exact I1.after hq
    | next => exact False.elim hq
    | brk => exact False.elim hq
    | cont => exact False.elim hq
/-- the def that calls what it got -/
def GivesG (X : Cx) (Ng : List Str) (x : Str) (sg : Scope) (g : Addr) (cdg : Value) (bg : List Stmt) (a : Str) (q : Str) (TT : (XK → Hp → VK → Prop) → Hp → VK → Prop) : Prop :=
  ∀ (f c' : Addr) (s : Shared) (H : Hp) (Q : VK) (tl : XK → Hp → VK → Prop),
    (∀ (W : WX) (pn : List (Addr × Obj)) (xe : Value → Shared → Prop) (E : XK) (p1 p2 : Pos), Takes ((cxOf C8.CX0 X.prog X.w X.K X.mg X.base Ng x sg g cdg X.A X.stack s H C8.E0).tr pn xe) W → (∀ cls d σ' H', E cls d H' → W cls d σ' H') →
      PE ((cxOf C8.CX0 X.prog X.w X.K X.mg X.base Ng x sg g cdg X.A X.stack s H C8.E0).tr pn xe) (.Call (.Name a p1) [] [] p2) (fun σZ HZ Q => σZ[0]? = some (some (.ref f)) ∧ HZ c' = some (CodeO c' q) ∧ tl E HZ Q)) →
    H c' = some (CodeO c' q) → Room 2 (X.A.deeper (envOfC x sg s.heap.objs.size g cdg)) → TT tl H Q →
    ∃ t, PSs (cxOf C8.CX0 X.prog X.w X.K X.mg X.base Ng x sg g cdg X.A X.stack s H C8.E0).nox bg t ∧ t { nx := fun _ H' => Q .non H', rt := Q } (L2.start Ng [.ref f]) H
/-- x(lambda: body) -/
theorem lamcall_g {T : List (Addr × Str)} {TT : (XK → Hp → VK → Prop) → Hp → VK → Prop} {x a : Str} {g c P : Addr} {k : Nat} {pg : Arguments} {bg : List Stmt} {sg : Scope} {dV kV doc pm cdv ct oc : Value} {an od : Option Addr} {osl : Array (Option Value)} {Ng : List Str}
    {params : Arguments} {body : Expr} {scope : Scope} {t : XK → TE} {p lpos pos : Pos} (hg : Gl X x) (hm : X.mg x = some (.ref g)) (hk : PySem.W.keepIn X.K (.ref g) = true)
    (lk : X.K.lookup g = some ⟨oc, od, .func (PySem.W.fnOf x x pg bg sg dV kV doc pm an cdv ct), osl⟩) (hcg : PySem.W.codeIn X.K cdv x = true) (hb : L2.Binds X.K (PySem.W.fnOf x x pg bg sg dV kV doc pm an cdv ct) [a] []) (Sg : FnScope Ng [a] sg) (hNg : Ng[0]? = some a) (hva : Vis sg a)
    (hG : GivesG X Ng x sg g cdv bg a (X.env.qual ++ "<lambda>") TT)
    (TB : TabB X.base X.mg c P) (hcode : X.env.code = .ref c) (hmT : (P, X.env.qual ++ "<lambda>") ∈ T) (hu : ∀ p ∈ T, p.1 = P → p.2 = X.env.qual ++ "<lambda>") (hr : Room (k + 2) X.A) (hk0 : 1 ≤ k) (L : LamS X.env.scope scope) (hdef : defaultsOf params X.env = ([], []))
    (hbind : ∀ (q : Str) (cl : List (Str × Addr)) (pm cv ctv : Value), bindArgs (PySem.W.kla_fn "<lambda>" q params body scope cl pm cv ctv) ⟨[], []⟩ = pure [])
    (hbody : ∀ (A : Around) (outer : List PySem.Env) (s : Shared) (H : Hp) (E : XK) (f c' : Addr), A.guards = X.A.guards → Room k (A.deeper (lamEnv X scope s.heap.objs.size f c')) → PE (lamCx X A outer s H E scope f c') body (t E))
    (hdb : (x == ("__debug__" : Str)) = false) (hd : (a == ("__debug__" : Str)) = false) (hcd : (a == ("__classdict__" : Str)) = false) :
    PE X (.Call (.Name x p) [.Lambda params body scope lpos] [] pos) (tLam T TT t) := by
  refine ⟨fun pins s σ H Q I ⟨hT, h⟩ => ?_⟩
  refine wpAny_Call_Name_kw (ld_glob I hg hm ?_ hdb)
  refine PySem.W.callWith_K (h₀ := X.base) I.ok.mod.kin hk ?_ (by rfl) (by rfl)
  show wpAny _ _ (spliced ((false, eval (.Lambda params body scope lpos) X.env) :: backTo pos (starEach [] X.env))) _ _ s
  refine Calls.spliced_cons (lam_make2 I TB hcode hmT hu hT hdef (L.has I.ok) fun f c' pm' ctv H1 s' I1 eN T1 hf hfn hfr hco => ?_)
  refine Calls.spliced_nil ⟨I1.kIn, ?_⟩
  have rc : codeAny (model X.prog X.w) X.A (.call (.ref g) ⟨[.ref f], []⟩) (CR C8.CX0 X.stack X.prog X.w H1 s' Q C8.E0) s' := by
    refine run_ofS (N := Ng) (ps := [a]) (us := [.ref f]) (vs := [.ref f]) lk hcg Sg hr I1.env0 (hb s' [.ref f] I1.kIn rfl) (.cons rfl .nil) rfl fun hr' => ?_
    obtain ⟨t', ht', hq'⟩ := hG f c' s' H1 Q (fun E H' Q' => t E σ H' Q') (fun W pn xe E p1 p2 tk hW => act_g (i := 0) I1 L hf hfn hfr (hbind _ _ _ _ _) tk hW hr' (fun A outer s H hg hr2 => hbody A outer s H E f c' hg hr2) hNg hva hd hcd) hco (hr'.mono (by omega)) (h H1 eN T1)
    exact ⟨t', ht'.nox, hq'⟩
  refine wpAny_call (codeAny_mono rc fun r s2 hq => ?_)
  cases r with
  | error e => exact (show False from hq).elim
  | ok fl =>
    cases fl with
    | ret u => exact I1.after hq
    | next => exact False.elim hq
    | brk => exact False.elim hq
    | cont => exact False.elim hq
end
end TrM

set_option Elab.async false
set_option linter.all false
set_option maxRecDepth 100000
set_option maxHeartbeats 1000000
namespace TrM
open PySem PySem.Spec PyProof.Rows L2
/-- a o1 b o2 c o3 d -/
def tChain3 (r r' r'' : R2) (ta tb tc td : TE) : TE := fun σ H Q => ta σ H fun x H1 => tb σ H1 fun y H2 => r x y H2 fun z H3 => ∃ k, z = .bl k ∧
  (if k = true then tc σ H3 fun w H4 => r' y w H4 fun z2 H5 => ∃ k2, z2 = .bl k2 ∧ (if k2 = true then td σ H5 fun v H6 => r'' w v H6 Q else Q (.bl false) H5) else Q (.bl false) H3)
section
variable {X : Cx} {a b c e : Expr} {ta tb tc td : TE} {pos : Pos}
theorem pe_chain3 {op op' op'' : CmpOp} {r r' r'' : R2} (ho : OpR X (compareOp op) r) (ho' : OpR X (compareOp op') r') (ho'' : OpR X (compareOp op'') r'') (ha : PE X a ta) (hb : PE X b tb) (hc : PE X c tc) (hd : PE X e td)
    (hm : lastMarks [op, op', op''] [b, c, e] = false) : PE X (.Compare a [op, op', op''] [b, c, e] pos) (tChain3 r r' r'' ta tb tc td) := by
  refine ⟨fun pins s σ H Q I h => ?_⟩
  refine Compare_chain (thn (ha.run pins s σ H _ I h) fun v s1 ⟨x, H1, I1, r1, q1⟩ => chain_link (thn (hb.run pins s1 σ H1 _ I1 q1) fun u s2 ⟨y, H2, I2, r2, q2⟩ =>
    thn (ho pins s2 σ H2 x y v u _ I2 r1 r2 q2) fun d s3 ⟨z, H3, I3, r3, k, e3, q3⟩ => ?_)) hm
  subst e3
  cases r3
  refine wpAny_truthy_bool ?_
  cases k with
  | false => exact ite_ff ⟨.bl false, H3, I3, rfl, q3⟩
  | true =>
    refine ite_tt (chain_link (thn (hc.run pins s3 σ H3 _ I3 q3) fun w' s4 ⟨z', H4, I4, r4, q4⟩ => thn (ho' pins s4 σ H4 y z' u w' _ I4 r2 r4 q4) fun d' s5 ⟨z2, H5, I5, r5, k2, e5, q5⟩ => ?_))
    subst e5
    cases r5
    refine wpAny_truthy_bool ?_
    cases k2 with
    | false => exact ite_ff ⟨.bl false, H5, I5, rfl, q5⟩
    | true => exact ite_tt (chain_last (thn (hd.run pins s5 σ H5 _ I5 q5) fun v6 s6 ⟨y6, H6, I6, r6, q6⟩ => ho'' pins s6 σ H6 z' y6 w' v6 Q I6 r4 r6 q6))
theorem pt_chain3 {op op' op'' : CmpOp} {r r' r'' : R2} (ho : OpR X (compareOp op) r) (ho' : OpR X (compareOp op') r') (ho'' : OpR X (compareOp op'') r'') (ha : PE X a ta) (hb : PE X b tb) (hc : PE X c tc) (hd : PE X e td)
    (hm : lastMarks [op, op', op''] [b, c, e] = false) : PT X (.Compare a [op, op', op''] [b, c, e] pos) (tTest (tChain3 r r' r'' ta tb tc td)) := by
  refine ⟨fun pins s σ H Q I h => ?_⟩
  refine isTrue_chain (thn (ha.run pins s σ H _ I h) fun v s1 ⟨x, H1, I1, r1, q1⟩ => test_link (thn (hb.run pins s1 σ H1 _ I1 q1) fun u s2 ⟨y, H2, I2, r2, q2⟩ =>
    thn (ho pins s2 σ H2 x y v u _ I2 r1 r2 q2) fun d s3 ⟨z, H3, I3, r3, k, e3, q3⟩ => ?_)) hm
  subst e3
  cases r3
  refine wpAny_truthy_bool ?_
  cases k with
  | false =>
    obtain ⟨k', e', q'⟩ := q3
    cases e'
    exact ite_ff ⟨H3, I3, q'⟩
  | true =>
    refine ite_tt (test_link (thn (hc.run pins s3 σ H3 _ I3 q3) fun w' s4 ⟨z', H4, I4, r4, q4⟩ => thn (ho' pins s4 σ H4 y z' u w' _ I4 r2 r4 q4) fun d' s5 ⟨z2, H5, I5, r5, k2, e5, q5⟩ => ?_))
    subst e5
    cases r5
    refine wpAny_truthy_bool ?_
    cases k2 with
    | false =>
      obtain ⟨k', e', q'⟩ := q5
      cases e'
      exact ite_ff ⟨H5, I5, q'⟩
    | true =>
      refine ite_tt (test_last (thn (hd.run pins s5 σ H5 _ I5 q5) fun v6 s6 ⟨y6, H6, I6, r6, q6⟩ => thn (ho'' pins s6 σ H6 z' y6 w' v6 _ I6 r4 r6 q6) fun d7 s7 ⟨z7, H7, I7, r7, k7, e7, q7⟩ => ?_))
      subst e7
      cases r7
      exact wpAny_truthy_bool ⟨H7, I7, q7⟩
end
end TrM

set_option Elab.async false
set_option linter.all false
set_option maxRecDepth 100000
set_option maxHeartbeats 4000000
/-! sorted of tuples of ints, of any lengths from 1 on, any number of them -/
namespace SrtO
open PySem PyProof.Rows Srt
section
variable {α β : Type}
/-- stable -/
def insS (lt : α → α → Bool) (x : α) : List α → List α
  | [] => [x]
  | y :: r => match lt y x with
    | true => y :: insS lt x r
    | false => x :: y :: r
def sortS (lt : α → α → Bool) : List α → List α
  | [] => []
  | x :: r => insS lt x (sortS lt r)
theorem insS_perm (lt : α → α → Bool) (x : α) : ∀ l : List α, (insS lt x l).Perm (x :: l)
  | [] => List.Perm.refl _
  | y :: r => by
    show (match lt y x with | true => y :: insS lt x r | false => x :: y :: r).Perm _
    cases lt y x with
    | true => exact ((insS_perm lt x r).cons y).trans (List.Perm.swap x y r)
    | false => exact List.Perm.refl _
theorem sortS_perm (lt : α → α → Bool) : ∀ l : List α, (sortS lt l).Perm l
  | [] => List.Perm.refl _
  | x :: r => (insS_perm lt x _).trans ((sortS_perm lt r).cons x)
theorem insS_srtd {lt : α → α → Bool} (O : Swo lt) (x : α) : ∀ l : List α, Srtd lt l → Srtd lt (insS lt x l)
  | [], _ => List.pairwise_singleton _ _
  | y :: r, h => by
    show Srtd lt (match lt y x with | true => y :: insS lt x r | false => x :: y :: r)
    rcases bcase (lt y x) with e | e
    · rw [e]
      refine List.pairwise_cons.mpr ⟨fun z hz => ?_, insS_srtd O x r (List.pairwise_cons.mp h).2⟩
      rcases List.mem_cons.mp ((insS_perm lt x r).mem_iff.mp hz) with rfl | hz
      · exact O.asym _ _ e
      · exact (List.pairwise_cons.mp h).1 z hz
    · rw [e]
      refine List.pairwise_cons.mpr ⟨fun z hz => ?_, h⟩
      rcases List.mem_cons.mp hz with rfl | hz
      · exact e
      · exact O.tr x y z e ((List.pairwise_cons.mp h).1 z hz)
theorem sortS_srtd {lt : α → α → Bool} (O : Swo lt) : ∀ l : List α, Srtd lt (sortS lt l)
  | [] => List.Pairwise.nil
  | x :: r => insS_srtd O x _ (sortS_srtd O r)
theorem insS_cls {lt : α → α → Bool} (O : Swo lt) (x z : α) : ∀ l : List α, (insS lt x l).filter (eqv lt z) = (x :: l).filter (eqv lt z)
  | [] => rfl
  | y :: r => by
    show (match lt y x with | true => y :: insS lt x r | false => x :: y :: r).filter _ = _
    rcases bcase (lt y x) with e | e
    · rw [e]
      dsimp only
      have ih := insS_cls O x z r
      rcases bcase (eqv lt z y) with q | q
      · rcases bcase (eqv lt z x) with p | p
        · obtain ⟨q1, q2⟩ := eqv_iff.mp q
          obtain ⟨p1, p2⟩ := eqv_iff.mp p
          have := O.tr x z y p1 q2
          rw [e] at this
          cases this
        · rw [List.filter_cons_of_neg (by rw [p]; decide)] at ih
          rw [List.filter_cons_of_pos q, ih, List.filter_cons_of_neg (by rw [p]; decide), List.filter_cons_of_pos q]
      · rw [List.filter_cons_of_neg (by rw [q]; decide), ih]
        rcases bcase (eqv lt z x) with p | p
        · rw [List.filter_cons_of_pos p, List.filter_cons_of_pos p, List.filter_cons_of_neg (by rw [q]; decide)]
        · rw [List.filter_cons_of_neg (by rw [p]; decide), List.filter_cons_of_neg (by rw [p]; decide), List.filter_cons_of_neg (by rw [q]; decide)]
    · rw [e]
theorem sortS_stb {lt : α → α → Bool} (O : Swo lt) : ∀ l : List α, Stb lt (sortS lt l) l
  | [] => Stb.refl _
  | x :: r => ⟨sortS_perm lt _, fun z => by
    show (insS lt x (sortS lt r)).filter _ = _
    rw [insS_cls O x z]
    have ih := (sortS_stb O r).cls z
    rcases bcase (eqv lt z x) with p | p
    · rw [List.filter_cons_of_pos p, List.filter_cons_of_pos p, ih]
    · rw [List.filter_cons_of_neg (by rw [p]; decide), List.filter_cons_of_neg (by rw [p]; decide), ih]⟩
theorem Stb.symm {lt : α → α → Bool} {l m : List α} (h : Stb lt l m) : Stb lt m l := ⟨h.perm.symm, fun x => (h.cls x).symm⟩
theorem sortS_uniq {lt : α → α → Bool} (O : Swo lt) {l m : List α} (hs : Srtd lt l) (hb : Stb lt l m) : l = sortS lt m := stb_uniq O hs (sortS_srtd O m) (hb.trans (sortS_stb O m).symm)
theorem insS_map {lt : α → α → Bool} {lu : β → β → Bool} (f : α → β) (x : α) : ∀ l : List α, (∀ y ∈ l, lu (f y) (f x) = lt y x) → insS lu (f x) (l.map f) = (insS lt x l).map f
  | [], _ => rfl
  | y :: r, h => by
    show (match lu (f y) (f x) with | true => f y :: insS lu (f x) (r.map f) | false => f x :: f y :: r.map f) = (match lt y x with | true => y :: insS lt x r | false => x :: y :: r).map f
    rw [h y (List.mem_cons_self ..)]
    cases lt y x with
    | true => dsimp only; rw [insS_map f x r fun z hz => h z (List.mem_cons_of_mem _ hz)] <;> rfl
    | false => rfl
theorem sortS_map {lt : α → α → Bool} {lu : β → β → Bool} (f : α → β) : ∀ l : List α, (∀ x ∈ l, ∀ y ∈ l, lu (f x) (f y) = lt x y) → sortS lu (l.map f) = (sortS lt l).map f
  | [], _ => rfl
  | x :: r, h => by
    show insS lu (f x) (sortS lu (r.map f)) = (insS lt x (sortS lt r)).map f
    rw [sortS_map f r fun y hy z hz => h y (List.mem_cons_of_mem _ hy) z (List.mem_cons_of_mem _ hz)]
    exact insS_map f x _ fun y hy => h y (List.mem_cons_of_mem _ ((sortS_perm lt r).mem_iff.mp hy)) x (List.mem_cons_self ..)
end
/-! ### lists of ints -/
def lexI : List Int → List Int → Bool
  | [], [] => false
  | [], _ :: _ => true
  | _ :: _, [] => false
  | x :: xs, y :: ys => match decide (x = y) with
    | true => lexI xs ys
    | false => decide (x < y)
theorem lexI_cons {x y : Int} {xs ys : List Int} : lexI (x :: xs) (y :: ys) = if x = y then lexI xs ys else decide (x < y) := by
  show (match decide (x = y) with | true => lexI xs ys | false => decide (x < y)) = _
  by_cases e : x = y
  · rw [decide_eq_true e, if_pos e]
  · rw [decide_eq_false e, if_neg e]
theorem lexI_asym : ∀ x y : List Int, lexI x y = true → lexI y x = false
  | [], [], h => by cases h
  | [], _ :: _, _ => rfl
  | _ :: _, [], h => by cases h
  | x :: xs, y :: ys, h => by
    rw [lexI_cons] at h ⊢
    by_cases e : x = y
    · rw [if_pos e] at h
      rw [if_pos e.symm]
      exact lexI_asym xs ys h
    · rw [if_neg e, decide_eq_true_eq] at h
      rw [if_neg (fun z => e z.symm)]
      exact decide_eq_false (by omega)
theorem lexI_tr : ∀ x y z : List Int, lexI y x = false → lexI z y = false → lexI z x = false
  | [], _, [], _, _ => rfl
  | [], _, _ :: _, _, _ => rfl
  | _ :: _, [], _, h, _ => by cases h
  | _ :: _, _ :: _, [], _, h => by cases h
  | x :: xs, y :: ys, z :: zs, h1, h2 => by
    rw [lexI_cons] at h1 h2 ⊢
    by_cases e1 : y = x
    · subst e1
      rw [if_pos rfl] at h1
      by_cases e2 : z = y
      · subst e2
        rw [if_pos rfl] at h2 ⊢
        exact lexI_tr xs ys zs h1 h2
      · rw [if_neg e2] at h2 ⊢
        exact h2
    · rw [if_neg e1, decide_eq_false_iff_not] at h1
      by_cases e2 : z = y
      · subst e2
        rw [if_neg e1]
        exact decide_eq_false h1
      · rw [if_neg e2, decide_eq_false_iff_not] at h2
        rw [if_neg (by omega)]
        exact decide_eq_false (by omega)
theorem lexI_swo : Swo lexI := ⟨lexI_asym, lexI_tr⟩
theorem swoOn {α β : Type} {lt : β → β → Bool} (O : Swo lt) (f : α → β) : Swo fun x y => lt (f x) (f y) := ⟨fun x y => O.asym (f x) (f y), fun x y z => O.tr (f x) (f y) (f z)⟩
section
variable {prog : Program} {w : World} {A : Around} {E : Value → Shared → Prop} {s : Shared}
open TS
theorem lexN {b fin : Bool} {Q : Bool → Shared → Prop} {xs ys : List Value} {ns ms : List Int} (i : Nat) (hx : IntsAre xs ns) (hy : IntsAre ys ms) (hf : fin = decide (ns.length < ms.length))
    (h : Q (lexI ns ms) s) : PySem.W.KatLex prog w A b fin Q (xs.zip ys) i s := by
  induction hx generalizing ys ms i with
  | nil =>
    cases hy with
    | nil => subst hf; exact PySem.W.kat_nil h
    | @cons q u ys ms hy =>
      subst hf
      have e : decide (([] : List Int).length < (q :: ms).length) = true := decide_eq_true (by simp)
      rw [e]
      exact PySem.W.kat_nil h
  | @cons p t xs ns hx ih =>
    cases hy with
    | nil =>
      subst hf
      have e : decide ((p :: ns).length < ([] : List Int).length) = false := decide_eq_false (by simp)
      rw [e]
      exact PySem.W.kat_nil h
    | @cons q u ys ms hy =>
      show PySem.W.KatLex prog w A b fin Q ((Value.int p t, Value.int q u) :: xs.zip ys) i s
      refine PySem.W.kat_cons (wpAny_eqBool_int ?_)
      rw [lexI_cons] at h
      by_cases e : p = q
      · subst e
        rw [if_pos rfl] at h
        rw [beq_self_eq_true]
        refine PySem.W.kat_yes ?_
        have hf' : fin = decide (ns.length < ms.length) := by
          rw [hf, List.length_cons, List.length_cons]
          exact decide_eq_decide.mpr (by omega)
        first
          | exact ih (i + 1) hy hf' h
          | exact ih _ _ (i + 1) hy hf' h
      · rw [if_neg e] at h
        rw [show (p == q) = false from beq_eq_false_iff_ne.mpr e]
        exact PySem.W.kat_no (oneLt_ints _ h)
theorem firstsN {h : Heap} {k : Value → List Int} : ∀ vs : List Value, (∀ v ∈ vs, TupInts h v (k v) ∧ k v ≠ []) → ∃ fs, PySem.W.KatTups h vs fs ∧ fs.length = vs.length ∧ ∀ f, f ∈ fs → ∃ n t, f = Value.int n t
  | [], _ => ⟨[], PySem.W.KatTups.nil, rfl, fun f hf => by simp at hf⟩
  | v :: vs, x => by
    obtain ⟨fs, kt, hl, hi⟩ := firstsN vs fun u hu => x u (List.mem_cons_of_mem _ hu)
    obtain ⟨⟨a, xs, rfl, ⟨o, ho, hc, n, hdt⟩, i⟩, hn⟩ := x v (List.mem_cons_self ..)
    obtain ⟨y, ys, e⟩ : ∃ y ys, xs.toList = y :: ys := by
      cases q : xs.toList with
      | nil =>
        rw [q] at i
        have l := i.length
        exact absurd (List.eq_nil_of_length_eq_zero (by simpa using l.symm)) hn
      | cons y ys => exact ⟨y, ys, rfl⟩
    obtain ⟨m, t, hy⟩ := i.all y (by rw [e]; exact List.mem_cons_self ..)
    refine ⟨y :: fs, PySem.W.KatTups.cons ho hc hdt ?_ kt, by simp [hl], ?_⟩
    · have z := congrArg (fun l : List Value => l[0]?) e
      simpa using z
    · intro f hf
      rcases List.mem_cons.mp hf with rfl | hf
      · exact ⟨m, t, hy⟩
      · exact hi f hf
theorem tups_cmp {vs : List Value} {k : Value → List Int} (hp : ∀ v ∈ vs, TupInts s.heap v (k v)) : Cmp prog w A s (tuples' true) (fun p => p.1 ∈ vs) (lt2 fun v u => lexI (k v) (k u)) := by
  intro p q hm hm'
  have h1 := hp _ hm
  have h2 := hp _ hm'
  show wpAny (model prog w) A (keyLt' (tuples' true) p.1 q.1) (fun r s' => s' = s ∧ r = lexI (k p.1) (k q.1)) (fun _ _ => False) s
  generalize k p.1 = ns at h1 ⊢
  generalize k q.1 = ms at h2 ⊢
  obtain ⟨a, xs, e1, ⟨o, ho, hc, n, hdt⟩, i⟩ := h1
  obtain ⟨a', ys, e2, ⟨o', ho', hc', n', hdt'⟩, i'⟩ := h2
  rw [e1, e2]
  refine PySem.W.kat_lt ho hdt ho' hdt' (lexN 0 i i' ?_ ⟨rfl, rfl⟩)
  have l1 := i.length
  have l2 := i'.length
  rw [Array.length_toList] at l1 l2
  exact decide_eq_decide.mpr (by omega)
theorem tups_sortableO {a : Addr} {vs : List Value} {k : Value → List Int} (h0 : 0 < vs.length) (hp : ∀ v ∈ vs, TupInts s.heap v (k v) ∧ k v ≠ []) (ha : ∀ o, s.heap.get? a = some o → o.cls ≠ .type "tuple") : SortableO prog w A s a vs fun v u => lexI (k v) (k u) := by
  intro h' keep
  have hp' : ∀ v ∈ vs, TupInts h' v (k v) ∧ k v ≠ [] := fun v hm => ⟨(hp v hm).1.keeps fun b o e c => keep b o (fun z => by subst z; exact ha o e c) e, (hp v hm).2⟩
  obtain ⟨fs, h1, h2, h3⟩ := firstsN vs hp'
  refine ⟨tuples' true, fun Q E hq => ?_, tups_cmp fun v hv => (hp' v hv).1⟩
  refine PySem.W.kat_kind (T := .type "int") h1 (by omega) (fun f hm => ?_) (by rfl) ?_
  · obtain ⟨x, t, rfl⟩ := h3 f hm
    exact PySem.W.Looks.now
  · have e : (Value.type "int" != Value.type "tuple") = true := by first | decide +kernel | rfl | decide
    rw [e]
    exact hq
theorem sorted_tupsO {l : Addr} {vs : List Value} {k : Value → List Int} {Q : Value → Shared → Prop} (hl : s.heap.IsList l vs.toArray) (hz : vs.length ≤ sizeLine) (hp : ∀ v ∈ vs, TupInts s.heap v (k v) ∧ k v ≠ [])
    (h : ∀ (h' : Heap) (d : Addr) (out : List Value), Srtd (fun v u => lexI (k v) (k u)) out → Stb (fun v u => lexI (k v) (k u)) out vs → (∀ b o, s.heap.get? b = some o → h'.get? b = some o) → s.heap.objs.size ≤ d → (∃ n, h'.get? d = some (seqObj "list" out.toArray n)) → Q (.ref d) { s with heap := h' }) :
    wpAny (model prog w) A (call (.builtin "sorted") [.ref l]) Q E s := by
  refine sorted_ord (swoOn lexI_swo k) hl hz (fun h2 h₁ a ha kk => ?_) fun out hs hb => ?_
  · refine tups_sortableO (s := { s with heap := h₁ }) (by omega) (fun v hm => ⟨(hp v hm).1.keeps fun b o e _ => (kk b o e).2, (hp v hm).2⟩) fun o e => ?_
    have e' : some o = some (seqObj "list" vs.toArray 0) := e.symm.trans ha
    cases e'
    intro c
    exact absurd (Value.type.inj c) (by decide)
  · exact h _ _ out hs hb (fun b o e => sortedAll_old e) (Nat.le_succ _) (sortedAll_at s.heap vs out.toArray)
end
end SrtO
namespace L2
open PySem PySem.Spec PyProof.Rows
abbrev ltN (k : V → List Int) (x y : V) : Bool := SrtO.lexI (k x) (k y)
/-- sorted(xs), xs a list of tuples of ints -/
def rSortedN (K : PySem.W.Frag) : List V → Hp → VK → Prop := fun vs H Q => ∃ (a : Addr) (xs : List V), vs = [V.ref a] ∧ SqL K H a xs ∧ (∀ x ∈ xs, ∃ ns t, x = V.ref t ∧ SqT K H t (ns.map V.int) ∧ ns ≠ []) ∧
  ∀ (k : V → List Int) p, (∀ x ∈ xs, ∀ ns t, x = V.ref t → SqT K H t (ns.map V.int) → k x = ns) → H p = none → Q (.ref p) (upd H p (.lst (SrtO.sortS (ltN k) xs)))
section
variable {X : Cx}
theorem cr_sortedN : CallR X (.builtin "sorted") (rSortedN X.K) := by
  intro pins s σ H vs us Q I r h
  obtain ⟨a, xs, rfl, hs, hx, q⟩ := h
  obtain ⟨its, rv, hl, hz⟩ := I.list hs
  obtain ⟨u, rfl, ru⟩ := vals1 r
  obtain rfl : u = Value.ref a := ru
  obtain ⟨e1, e2⟩ := refs_back rv fun x m => by
    obtain ⟨_, t, e, _⟩ := hx x m
    exact ⟨t, e⟩
  have hu : ∀ v ∈ its, ∃ ns t, v = Value.ref t ∧ V.ref t ∈ xs ∧ SqT X.K H t (ns.map V.int) ∧ ns ≠ [] := fun v hv => by
    obtain ⟨t, rfl⟩ := e2 v hv
    have hm : V.ref t ∈ xs := by rw [e1]; exact List.mem_map.mpr ⟨_, hv, rfl⟩
    obtain ⟨ns, t', e, ht, hn⟩ := hx _ hm
    cases e
    exact ⟨ns, t, rfl, hm, ht, hn⟩
  let k : V → List Int := fun x => match x with | .ref t => TS.intsOf s.heap (.ref t) | _ => []
  have hk : ∀ x ∈ xs, ∀ ns t, x = V.ref t → SqT X.K H t (ns.map V.int) → k x = ns := fun x _ ns t e ht => by
    subst e
    exact (tupI_raw I ht).ints
  refine SrtO.sorted_tupsO (k := fun u => k (backV u)) hl.isList (by rw [← rv.length]; exact hz) (fun v hv => ?_) fun h' d out h1 h2 kp hd hn => ?_
  · obtain ⟨ns, t, rfl, hm, ht, hn⟩ := hu v hv
    have e : k (backV (.ref t)) = ns := hk _ hm ns t rfl ht
    rw [e]
    exact ⟨tupI_raw I ht, hn⟩
  · have h3 : ∀ u ∈ out, ∃ a, u = Value.ref a := fun u hu => e2 u (h2.perm.mem_iff.mp hu)
    obtain ⟨n, hn⟩ := hn
    have hb : SrtO.Stb (ltN k) (out.map backV) xs := by
      rw [e1]
      exact SrtO.Stb.map (SrtO.swoOn SrtO.lexI_swo k) backV h2
    have es : out.map backV = SrtO.sortS (ltN k) xs := SrtO.sortS_uniq (SrtO.swoOn SrtO.lexI_swo k) (SrtO.srtd_map h1) hb
    refine ⟨.ref d, upd H d (.lst (out.map backV)), I.laid (t' := s.toks) kp hd ⟨?_, out, n, vals_back h3, hn⟩, rfl, ?_⟩
    · rw [hb.len]
      exact hz
    · rw [es]
      exact q k d hk (I.hok.fresh hd)
end
end L2

set_option Elab.async false
set_option linter.all false
set_option maxRecDepth 100000
set_option maxHeartbeats 4000000
/-! enumerate and zip of lists and tuples, in any mix, for the hand layer. -/
namespace EnZ
open PySem PySem.Spec PyProof.Rows L2

/-- a list (true) or a tuple -/
def SqB (b : Bool) (K : PySem.W.Frag) (H : Hp) (a : Addr) (xs : List V) : Prop := match b with
  | true => SqL K H a xs
  | false => SqT K H a xs
def itB (b : Bool) (h : Heap) (it a : Addr) (i : Nat) : Prop := match b with
  | true => h.IsListIter it a i
  | false => h.IsTupleIter it a i
def isB (b : Bool) (h : Heap) (a : Addr) (its : Array Value) : Prop := match b with
  | true => h.IsList a its
  | false => h.IsTuple a its
def obB (b : Bool) (a : Addr) : Obj := match b with
  | true => { cls := .type "list_iterator", data := .fields #[.ref a, .int 0 0] }
  | false => { cls := .type "tuple_iterator", data := .fields #[.ref a, .int 0 0] }
section
variable {X : Cx} {pins : List (Addr × Obj)} {σ : L2.St} {H : Hp} {s : Shared} {b : Bool} {a it : Addr} {xs ys : List V}
theorem seqB (I : Inv X pins σ H s) (h : SqB b X.K H a xs) : ∃ its : List Value, Vals xs its ∧ isB b s.heap a its.toArray := by
  cases b with
  | true => obtain ⟨its, r, p, _⟩ := I.list h; exact ⟨its, r, p.isList⟩
  | false => obtain ⟨its, r, p, _⟩ := I.tuple h; exact ⟨its, r, p⟩
theorem injB (I : Inv X pins σ H s) (h : SqB b X.K H a xs) (h' : SqB b X.K H a ys) : xs = ys := by
  cases b with
  | true => exact I.list_inj h h'
  | false => exact I.tuple_inj h h'
theorem isB_lt {h : Heap} {its : Array Value} (p : isB b h a its) : a < h.objs.size := by
  cases b with
  | true => obtain ⟨_, e, _⟩ := p; exact Heap.lt_size e
  | false => obtain ⟨_, e, _⟩ := p; exact Heap.lt_size e
theorem itB_at {h h' : Heap} {i : Nat} (p : itB b h it a i) (k : ∀ o, h.get? it = some o → h'.get? it = some o) : itB b h' it a i := by
  cases b with
  | true => exact Heap.IsListIter.at p k
  | false => exact Heap.IsTupleIter.at p k
theorem itB_ob {h : Heap} {i : Nat} (p : itB b h it a i) : ∃ o, h.get? it = some o ∧ ∀ v, o.data ≠ .cell v := by
  cases b with
  | true => obtain ⟨o, e, _, d⟩ := p; exact ⟨o, e, fun v q => by rw [d] at q; cases q⟩
  | false => obtain ⟨o, e, _, d⟩ := p; exact ⟨o, e, fun v q => by rw [d] at q; cases q⟩
theorem itB_new {h : Heap} (e : h.get? it = some (obB b a)) : itB b h it a 0 := by
  cases b with
  | true => exact ⟨_, e, rfl, rfl⟩
  | false => exact ⟨_, e, rfl, rfl⟩
theorem drawsB {prog : Program} {w : World} {A : Around} (hh : A.handled = none) (b : Bool) (it a : Addr) (hne : a ≠ it) (its : Array Value) :
    Draws prog w A it [it, a] its.size (fun i v => its[i]? = some v) (fun i h => itB b h it a i ∧ isB b h a its) := by
  cases b with
  | true => exact Draws.list hh it a hne its
  | false => exact Draws.tuple hh it a hne its
theorem beginsB (b : Bool) (a : Addr) (its : Array Value) : Begins (.ref a) (obB b a) fun h => isB b h a its := by
  cases b with
  | true => exact begins_list a its
  | false => exact begins_tuple a its
end
/-! ### one turn of an iterator of tuples -/
section
variable {X : Cx} {pins : List (Addr × Obj)} {σ : L2.St} {H : Hp} {s : Shared} {own wr fp : List Addr} {e : Addr} {n i : Nat} {Pt : Nat → Array Value → Prop} {St : Nat → Heap → Prop} {Mid : Nat → Addr → Heap → Prop} {elts : List Expr} {kk : Nat} {tpos : Pos} {E : Value → Shared → Prop}
theorem tup_item {Y : V → Hp → Prop} {Z : Heap → Prop} (W : WalksT X.prog X.w X.A e fp wr n Pt St Mid) (hw : ∀ b ∈ wr, b ∈ own) (I : Inv X pins σ H s) (hf : ∀ b ∈ own, FpOk X pins H b) (hl : ∀ b ∈ own, b < s.heap.objs.size) (hi : i < n) (st : St i s.heap)
    (hv : ∀ vals, Pt i vals → ∃ ys, Vals ys vals.toList ∧ ys.length ≤ 1000 ∧ ∀ T, H T = none → Y (.ref T) (upd H T (.tup ys))) (hz : ∀ h, St (i + 1) h → Z h) :
    wpAny (model X.prog X.w) X.A (pyNext (.ref e)) (fun r s1 => ∃ u, r = some u ∧
      wpAny (model X.prog X.w) X.A (letOwnedTupleGo (.Tuple elts kk tpos) (.ref e) u) (fun _ s2 => ∃ x H', Inv X pins σ H' s2 ∧ RelV x u ∧ Y x H' ∧ Z s2.heap ∧ ∀ b ∈ own, H' b = none) E s1) E s := by
  refine W.item i s _ _ hi st fun T vals h' tk hP hT ht hm hk => ⟨.ref T, rfl, W.go elts kk tpos i T _ _ _ hm fun h'' st'' hk'' => ?_⟩
  obtain ⟨ys, rv, hn, hy⟩ := hv vals hP
  have ht2 : IsTup h'' T vals.toList.toArray := by
    obtain ⟨o, e1, c, m, d⟩ := ht
    exact ⟨o, hk'' T o (W.apart i T h' hm) e1, c, m, by simpa using d⟩
  have new : ObjOk X.prog X.w (upd H T (.tup ys)) h'' T (.tup ys) := ⟨by rw [sizeLine_eq]; omega, vals.toList, rv, ht2⟩
  have I1 : Inv X pins σ (upd H T (.tup ys)) { s with heap := h'', toks := tk } :=
    I.turnedNew (ch := own) (fun b o hb q => hk'' b o (fun z => hb (hw b z)) (hk b o (fun z => hb (hw b z)) q)) hf hT new
  refine ⟨.ref T, _, I1, rfl, hy T (I.hok.fresh hT), hz _ st'', fun b hb => ?_⟩
  rw [upd_ne (Nat.ne_of_lt (Nat.lt_of_lt_of_le (hl b hb) hT))]
  exact (hf b hb).1
theorem tup_done (W : WalksT X.prog X.w X.A e fp wr n Pt St Mid) (hw : ∀ b ∈ wr, b ∈ own) (I : Inv X pins σ H s) (hf : ∀ b ∈ own, FpOk X pins H b) (st : St n s.heap) :
    wpAny (model X.prog X.w) X.A (pyNext (.ref e)) (fun r s1 => r = none ∧ Inv X pins σ H s1) E s :=
  W.done s _ _ st fun h' tk hk => ⟨rfl, I.turnedL (t' := tk) (ch := own) (fun b o hb q => hk b o (fun z => hb (hw b z)) q) hf⟩
end
/-! ### enumerate -/
def IteB (b : Bool) (K : PySem.W.Frag) (a : Addr) : It :=
  ⟨fun i H => ∃ (xs : List V) (x : V), SqB b K H a xs ∧ xs[i]? = some x, fun i H v H' => ∃ T x, v = .ref T ∧ H T = none ∧ H' = upd H T (.tup [.int (i : Nat), x]) ∧ ∀ xs, SqB b K H a xs → xs[i]? = some x, fun i H => ∃ xs : List V, SqB b K H a xs ∧ xs.length ≤ i⟩
theorem toA {its : List Value} {i : Nat} {u : Value} (h : its.toArray[i]? = some u) : its[i]? = some u := by simpa using h
theorem pair_get {xs : List V} {its : List Value} {i : Nat} {x : V} {u : Value} (r : Vals xs its) (hx : xs[i]? = some x) (hu : its[i]? = some u) : RelV x u := by
  obtain ⟨u', e, q⟩ := r.get hx
  rw [hu] at e
  cases e
  exact q
theorem turn_enumB {P : Program} {w : World} {K : PySem.W.Frag} {elts : List Expr} {kk : Nat} {tpos : Pos} (b : Bool) (a e it : Addr) (h1 : e ≠ it) (h2 : e ≠ a) (h3 : a ≠ it) :
    Turn P w K (.Tuple elts kk tpos) (IteB b K a) [e, it] e (fun i h => (∃ old, IsEnum h e it ((i : Nat) : Int) old) ∧ itB b h it a i) where
  mem := by simp
  obj := fun i h st c hc => by
    obtain ⟨⟨old, he⟩, hi⟩ := st
    have e' : c = e ∨ c = it := by simpa using hc
    rcases e' with z | z
    · rw [z]; exact ⟨_, he, fun v q => nomatch q⟩
    · rw [z]; exact itB_ob hi
  keep := fun i h h' st k => let ⟨⟨old, he⟩, hi⟩ := st; ⟨⟨old, k e (by simp) _ he⟩, itB_at hi fun o q => k it (by simp) o q⟩
  item := by
    intro X hP hw hK hc i pins s σ H E I hf st hg
    subst hP hw hK
    obtain ⟨⟨old, he⟩, hit⟩ := st
    obtain ⟨xs, x, hq, hx⟩ := hg
    obtain ⟨its, rv, p⟩ := seqB I hq
    have hlt : i < its.toArray.size := by
      rw [List.size_toArray, ← rv.length]
      exact (List.getElem?_eq_some_iff.mp hx).1
    have hd : X.A.in1.handled = none := (show X.A.handled = none from I.ok.hd hc)
    have W := WalksT.enumerateD (prog := X.prog) (w := X.w) (A := X.A) (drawsB (prog := X.prog) (w := X.w) hd b it a h3 its.toArray) e h1 (by simp [h1, h2]) (by simp)
    refine tup_item (E := E) (elts := elts) (kk := kk) (tpos := tpos) (Y := fun x H' => (IteB b X.K a).yld i H x H') (Z := fun h => (∃ old, IsEnum h e it ((i + 1 : Nat) : Int) old) ∧ itB b h it a (i + 1)) (own := [e, it]) W (fun c hc => hc) I hf (fun c hc => ?_) hlt ⟨⟨old, he⟩, hit, p⟩ (fun vals hP => ?_) (fun h hst => ⟨hst.1, hst.2.1⟩)
    · have e' : c = e ∨ c = it := by simpa using hc
      rcases e' with z | z
      · rw [z]; exact Heap.lt_size he
      · rw [z]; obtain ⟨_, q, _⟩ := itB_ob hit; exact Heap.lt_size q
    · obtain ⟨t, u, hu, rfl⟩ := hP
      exact ⟨[.int (i : Nat), x], .cons ⟨t, rfl⟩ (.cons (pair_get rv hx (toA hu)) .nil), by simp, fun T hT => ⟨T, x, rfl, hT, rfl, fun ys hy => by rw [injB I hy hq]; exact hx⟩⟩
  done := by
    intro X hP hw hK hc i pins s σ H E I hf st hg
    subst hP hw hK
    obtain ⟨⟨old, he⟩, hit⟩ := st
    obtain ⟨xs, hq, hx⟩ := hg
    obtain ⟨its, rv, p⟩ := seqB I hq
    have hl := rv.length
    obtain ⟨f0, f1, f2, f3, f4, f5⟩ := hf it (by simp)
    have hd : X.A.handled = none := I.ok.hd hc
    cases b with
    | true => exact wpAny_pyNext_enum_end hd he hit p (by simp; omega) fun h' eb => ⟨rfl, I.turned (t' := s.toks) (fun b o hb q => eb b o hb q) f0 f1 f3 f4 f5⟩
    | false =>
      have hT : s.TypeIs (.ref e) "enumerate" := ⟨_, he, rfl⟩
      unfold pyNext
      refine wpAny_bind (wpAny_attempt (wpAny_callSpecial?_slot (name := Str.ofString "__next__") hT F.slot_enumerate_next
        (wpAny_call_entry F.slot_enumerate_next hT F.entry_enumerate_next ?_ (F.args_enumerate_next_1 _))))
      show wpAny _ _ (field (.ref e) 2 >>= _) _ _ _
      refine wpAny_bind (wpAny_field he rfl (x := .ref it) rfl ?_)
      refine wpAny_bind (wpAny_nextOf_tuple_end (A := X.A.in1) hd hit p (by simp; omega) fun h' x eb hx' => ?_)
      obtain ⟨o, ho, hc⟩ := hx'
      refine wpAny_bind (wpAny_isInstance (T := "StopIteration") (b := true) ⟨o, ho, hc⟩ isSubtype_stop ?_)
      exact wpAny_pure ⟨rfl, I.turned (t' := s.toks) (fun b o hb q => eb b o hb q) f0 f1 f3 f4 f5⟩
  self := fun A i s Q E st h => let ⟨⟨_, he⟩, _⟩ := st; wpAny_pyIter_enum he h
theorem meets_enumerate_new1B {v : Value} {o : Obj} {H : Heap → Prop} (B : Begins v o H) :
    Meets (Builtin.«enumerate.__new__» ⟨[.type "enumerate", v], []⟩) (fun _ R s => H s.heap ∧
      R (.ok (.ret (.ref (s.heap.push o).objs.size))) { s with heap := (s.heap.push o).push { cls := .type "enumerate", data := .fields #[.none, .bool false, .ref s.heap.objs.size, rawInt 0, .none, .none] } }) :=
  .of_wp fun prog w A R s h => by
    obtain ⟨hp, g, d, tk, os⟩ := s; obtain ⟨h1, h⟩ := h
    have hsub := sub_enumerate
    have q1 : ∀ {A' : Around} {E : Value → Shared → Prop} {Q : Value → Shared → Prop}, Q (.ref hp.objs.size) ⟨hp.push o, g, d, tk, os⟩ → wpAny (model prog w) A' (pyIter v) Q E ⟨hp, g, d, tk, os⟩ :=
      fun q => B.iter prog w _ _ ⟨hp, g, d, tk, os⟩ _ h1 q
    wp_walk using q1
    refine wpAny_stack_any fun st => wpAny_pure ?_
    split
    · rename_i c _ _ _ _ _
      cases (c == Value.type "enumerate")
      · wp_walk using q1
        exact ⟨_, rfl, h⟩
      · wp_walk using q1
        exact ⟨_, rfl, h⟩
    · wp_walk using q1
      exact ⟨_, rfl, h⟩
section
variable {prog : Program} {w : World} {A : Around} {E : Value → Shared → Prop} {s : Shared}
theorem enum_begins1 {v : Value} {o : Obj} {H : Heap → Prop} {Q : Value → Shared → Prop} (B : Begins v o H) (h1 : H s.heap)
    (h : ∀ h', IsEnum h' (s.heap.objs.size + 1) s.heap.objs.size 0 .none → h'.get? s.heap.objs.size = some o → h'.objs.size = s.heap.objs.size + 2 →
      (∀ b o, s.heap.get? b = some o → h'.get? b = some o) → Q (.ref (s.heap.objs.size + 1)) { s with heap := h' }) :
    wpAny (model prog w) A (call (.type "enumerate") [v]) Q E s := by
  refine callType_new F.called_enumerate (by decide) (F.typeCall_enumerate_1 _) (F.newCall_enumerate_1 _) (fun obj => F.args_object_init_2 obj _) F.entry_enumerate_new
    (meets_enumerate_new1B B) ⟨h1, ?_⟩
  have hz : (s.heap.push o).objs.size = s.heap.objs.size + 1 := Heap.size_push ..
  show _ ∧ _
  rw [hz]
  have he : IsEnum ((s.heap.push o).push { cls := .type "enumerate", data := .fields #[.none, .bool false, .ref s.heap.objs.size, rawInt 0, .none, .none] }) (s.heap.objs.size + 1) s.heap.objs.size 0 .none := by
    have := Heap.get?_push_size (s.heap.push o) (o := { cls := .type "enumerate", data := .fields #[.none, .bool false, .ref s.heap.objs.size, rawInt 0, .none, .none] }) rfl
    rw [hz] at this; exact this
  refine ⟨⟨_, he, rfl⟩, h _ he (Heap.get?_push_of_some _ (Heap.get?_push_size _ B.free)) (by rw [Heap.size_push, hz]) fun b o x => Heap.get?_push_of_some _ (Heap.get?_push_of_some _ x)⟩
end
def iEnumB (K : PySem.W.Frag) (ta : TA) : TI := fun σ H R => ta σ H fun vs H1 => ∃ b a xs, vs = [.ref a] ∧ SqB b K H1 a xs ∧ R (IteB b K a) H1
theorem pi_enumB {X : Cx} {e : Expr} {ta : TA} {p pos tpos : Pos} {elts : List Expr} {kk : Nat} (hg : Gl X "enumerate") (hm : X.mg "enumerate" = none) (ha : PA X [e] ta) (hs : starEach [e] X.env = [(false, eval e X.env)] := by rfl) :
    PI X (.Tuple elts kk tpos) (.Call (.Name "enumerate" p) [e] [] pos) (iEnumB X.K ta) := by
  refine ⟨fun pins s σ H R I h => ?_⟩
  refine Call_ (ld_blt I hg hm boot_enumerate (PyProof.Rows.callWith_type1 (thn (ha.run pos pins s σ H _ I h) fun us s1 ⟨vs, H1, I1, r1, q1⟩ => ?_) hs rfl))
  obtain ⟨b, a, xs, ex, hq, q⟩ := q1
  subst ex
  cases r1 with
  | cons r rr =>
    cases rr
    cases r
    obtain ⟨its, rv, p'⟩ := seqB I1 hq
    have hlt := isB_lt p'
    refine enum_begins1 (beginsB b a its.toArray) p' fun h' he hit hsz hk => wpAny_pyIter_enum he ?_
    have I2 : Inv X pins σ H1 { s1 with heap := h' } := I1.kept (t' := s1.toks) hk
    refine ⟨s1.heap.objs.size + 1, [s1.heap.objs.size + 1, s1.heap.objs.size], _, _, H1, rfl, I2, turn_enumB b a (s1.heap.objs.size + 1) s1.heap.objs.size (Nat.succ_ne_self _) (Nat.ne_of_gt (Nat.lt_succ_of_lt hlt)) (Nat.ne_of_lt hlt), ⟨⟨.none, he⟩, itB_new hit⟩, fun c hc => ?_, q⟩
    have e' : c = s1.heap.objs.size + 1 ∨ c = s1.heap.objs.size := by simpa using hc
    have hle : s1.heap.objs.size ≤ c := by
      rcases e' with z | z
      · rw [z]; exact Nat.le_add_right _ _
      · rw [z]; exact Nat.le_refl _
    exact I1.fpOk hle (I1.hok.fresh hle)
/-! ### zip -/
def ItzB (b1 b2 : Bool) (K : PySem.W.Frag) (a b : Addr) : It :=
  ⟨fun i H => ∃ (xs ys : List V) (x y : V), SqB b1 K H a xs ∧ SqB b2 K H b ys ∧ xs[i]? = some x ∧ ys[i]? = some y,
    fun i H v H' => ∃ T x y, v = .ref T ∧ H T = none ∧ H' = upd H T (.tup [x, y]) ∧ (∀ xs, SqB b1 K H a xs → xs[i]? = some x) ∧ ∀ ys, SqB b2 K H b ys → ys[i]? = some y,
    fun i H => ∃ xs ys : List V, SqB b1 K H a xs ∧ SqB b2 K H b ys ∧ min xs.length ys.length = i⟩
theorem turn_zipB {P : Program} {w : World} {K : PySem.W.Frag} {elts : List Expr} {kk : Nat} {tpos : Pos} (b1 b2 : Bool) {a b z TI TO i1 i2 : Addr} (D : ZipSep2 z TI TO i1 i2 [i1, a] [i2, b]) (h1 : a ≠ i1) (h2 : b ≠ i2) :
    Turn P w K (.Tuple elts kk tpos) (ItzB b1 b2 K a b) [z, TI, TO, i1, i2] z (fun i h => IsZip h z TI TO .none ∧ IsTupOf2 h TI (.ref i1) (.ref i2) ∧ (∃ x y, IsTupOf2 h TO x y) ∧ itB b1 h i1 a i ∧ itB b2 h i2 b i) where
  mem := by simp
  obj := fun i h st c hc => by
    obtain ⟨hz, hTI, ⟨x, y, hTO⟩, j1, j2⟩ := st
    have e' : c = z ∨ c = TI ∨ c = TO ∨ c = i1 ∨ c = i2 := by simpa using hc
    rcases e' with q | q | q | q | q
    · rw [q]; exact ⟨_, hz, fun v q => nomatch q⟩
    · rw [q]; exact ⟨_, hTI, fun v q => nomatch q⟩
    · rw [q]; exact ⟨_, hTO, fun v q => nomatch q⟩
    · rw [q]; exact itB_ob j1
    · rw [q]; exact itB_ob j2
  keep := fun i h h' st k => by
    obtain ⟨hz, hTI, ⟨x, y, hTO⟩, j1, j2⟩ := st
    exact ⟨k z (by simp) _ hz, k TI (by simp) _ hTI, ⟨x, y, k TO (by simp) _ hTO⟩, itB_at j1 fun o q => k i1 (by simp) o q, itB_at j2 fun o q => k i2 (by simp) o q⟩
  item := by
    intro X hP hw hK hc i pins s σ H E I hf st hg
    subst hP hw hK
    obtain ⟨hz, hTI, ⟨x0, y0, hTO⟩, j1, j2⟩ := st
    obtain ⟨xs, ys, x, y, hqx, hqy, hx, hy⟩ := hg
    obtain ⟨its, rv, p⟩ := seqB I hqx
    obtain ⟨its2, rv2, p2⟩ := seqB I hqy
    have l1 : i < its.toArray.size := by rw [List.size_toArray, ← rv.length]; exact (List.getElem?_eq_some_iff.mp hx).1
    have l2 : i < its2.toArray.size := by rw [List.size_toArray, ← rv2.length]; exact (List.getElem?_eq_some_iff.mp hy).1
    have hd : X.A.in1.handled = none := (show X.A.handled = none from I.ok.hd hc)
    have W := WalksT.zipD2 (prog := X.prog) (w := X.w) (A := X.A) D (drawsB (prog := X.prog) (w := X.w) hd b1 i1 a h1 its.toArray) (drawsB (prog := X.prog) (w := X.w) hd b2 i2 b h2 its2.toArray)
    refine tup_item (E := E) (elts := elts) (kk := kk) (tpos := tpos) (Y := fun x H' => (ItzB b1 b2 X.K a b).yld i H x H') (Z := fun h => IsZip h z TI TO .none ∧ IsTupOf2 h TI (.ref i1) (.ref i2) ∧ (∃ x y, IsTupOf2 h TO x y) ∧ itB b1 h i1 a (i + 1) ∧ itB b2 h i2 b (i + 1)) (own := [z, TI, TO, i1, i2]) W (fun c hc => ?_) I hf (fun c hc => ?_) (by omega) ⟨hz, hTI, ⟨x0, y0, hTO⟩, ⟨j1, p⟩, ⟨j2, p2⟩⟩ (fun vals hP => ?_) (fun h hst => ⟨hst.1, hst.2.1, hst.2.2.1, hst.2.2.2.1.1, hst.2.2.2.2.1⟩)
    · have e' : c = z ∨ c = TO ∨ c = i1 ∨ c = i2 := by simpa using hc
      rcases e' with q | q | q | q <;> simp [q]
    · have e' : c = z ∨ c = TI ∨ c = TO ∨ c = i1 ∨ c = i2 := by simpa using hc
      rcases e' with q | q | q | q | q
      · rw [q]; exact Heap.lt_size hz
      · rw [q]; exact Heap.lt_size hTI
      · rw [q]; exact Heap.lt_size hTO
      · rw [q]; obtain ⟨_, q, _⟩ := itB_ob j1; exact Heap.lt_size q
      · rw [q]; obtain ⟨_, q, _⟩ := itB_ob j2; exact Heap.lt_size q
    · obtain ⟨u, u2, hu, hu2, rfl⟩ := hP
      exact ⟨[x, y], .cons (pair_get rv hx (toA hu)) (.cons (pair_get rv2 hy (toA hu2)) .nil), by simp, fun T hT => ⟨T, x, y, rfl, hT, rfl, fun l hl => by rw [injB I hl hqx]; exact hx, fun l hl => by rw [injB I hl hqy]; exact hy⟩⟩
  done := by
    intro X hP hw hK hc i pins s σ H E I hf st hg
    subst hP hw hK
    obtain ⟨hz, hTI, ⟨x0, y0, hTO⟩, j1, j2⟩ := st
    obtain ⟨xs, ys, hqx, hqy, hend⟩ := hg
    obtain ⟨its, rv, p⟩ := seqB I hqx
    obtain ⟨its2, rv2, p2⟩ := seqB I hqy
    have hd : X.A.in1.handled = none := (show X.A.handled = none from I.ok.hd hc)
    have W := WalksT.zipD2 (prog := X.prog) (w := X.w) (A := X.A) D (drawsB (prog := X.prog) (w := X.w) hd b1 i1 a h1 its.toArray) (drawsB (prog := X.prog) (w := X.w) hd b2 i2 b h2 its2.toArray)
    have e1 : min its.toArray.size its2.toArray.size = i := by rw [List.size_toArray, List.size_toArray, ← rv.length, ← rv2.length]; exact hend
    refine tup_done (own := [z, TI, TO, i1, i2]) W (fun c hc => ?_) I hf (by rw [e1]; exact ⟨hz, hTI, ⟨x0, y0, hTO⟩, ⟨j1, p⟩, ⟨j2, p2⟩⟩)
    have e' : c = z ∨ c = TO ∨ c = i1 ∨ c = i2 := by simpa using hc
    rcases e' with q | q | q | q <;> simp [q]
  self := fun A i s Q E st h => wpAny_pyIter_zip st.1 h
def iZipB (K : PySem.W.Frag) (ta : TA) : TI := fun σ H R => ta σ H fun vs H1 => ∃ b1 b2 a b xs ys, vs = [.ref a, .ref b] ∧ SqB b1 K H1 a xs ∧ SqB b2 K H1 b ys ∧ R (ItzB b1 b2 K a b) H1
theorem pi_zipB {X : Cx} {e e2 : Expr} {ta : TA} {p pos tpos : Pos} {elts : List Expr} {kk : Nat} (hg : Gl X "zip") (hm : X.mg "zip" = none) (ha : PA X [e, e2] ta)
    (hs : starEach [e, e2] X.env = (false, eval e X.env) :: starEach [e2] X.env := by rfl) (hpl : (backTo pos (starEach [e2] X.env)).any (·.1) = false := by rfl) :
    PI X (.Tuple elts kk tpos) (.Call (.Name "zip" p) [e, e2] [] pos) (iZipB X.K ta) := by
  refine ⟨fun pins s σ H R I h => ?_⟩
  refine Call_ (ld_blt I hg hm PyProof.Rows.boot_zip (PyProof.Rows.callWith_type1 (thn (ha.run pos pins s σ H _ I h) fun us s1 ⟨vs, H1, I1, r1, q1⟩ => ?_) hs hpl))
  obtain ⟨b1, b2, a, b, xs, ys, ex, hqx, hqy, q⟩ := q1
  subst ex
  cases r1 with
  | cons r rr =>
    cases rr with
    | cons r' rr =>
      cases rr
      cases r
      cases r'
      obtain ⟨its, rv, p1⟩ := seqB I1 hqx
      obtain ⟨its2, rv2, p2⟩ := seqB I1 hqy
      have la := isB_lt p1
      have lb := isB_lt p2
      refine zip_begins2 (beginsB b1 a its.toArray) (beginsB b2 b its2.toArray) p1 p2 fun h' hz hTI hTO g1 g2 hsz hk => wpAny_pyIter_zip hz ?_
      have I2 : Inv X pins σ H1 { s1 with heap := h' } := I1.kept (t' := s1.toks) hk
      refine ⟨s1.heap.objs.size + 4, [s1.heap.objs.size + 4, s1.heap.objs.size + 2, s1.heap.objs.size + 3, s1.heap.objs.size, s1.heap.objs.size + 1], _, _, H1, rfl, I2,
        turn_zipB b1 b2 (zip_sep2 (N := s1.heap.objs.size) (fp1 := [a]) (fp2 := [b]) (fun c hc => by rw [List.mem_singleton.mp hc]; exact la) (fun c hc => by rw [List.mem_singleton.mp hc]; exact lb)) (Nat.ne_of_lt la) (Nat.ne_of_lt (Nat.lt_succ_of_lt lb)), ⟨hz, hTI, ⟨_, _, hTO⟩, itB_new g1, itB_new g2⟩, fun c hcm => ?_, q⟩
      have e' : c = s1.heap.objs.size + 4 ∨ c = s1.heap.objs.size + 2 ∨ c = s1.heap.objs.size + 3 ∨ c = s1.heap.objs.size ∨ c = s1.heap.objs.size + 1 := by simpa using hcm
      have hle : s1.heap.objs.size ≤ c := by
        rcases e' with z | z | z | z | z
        · rw [z]; exact Nat.le_add_right _ _
        · rw [z]; exact Nat.le_add_right _ _
        · rw [z]; exact Nat.le_add_right _ _
        · rw [z]; exact Nat.le_refl _
        · rw [z]; exact Nat.le_add_right _ _
      exact I1.fpOk hle (I1.hok.fresh hle)
end EnZ

set_option Elab.async false
set_option linter.all false
set_option maxRecDepth 100000
set_option maxHeartbeats 4000000
/-! tuple * int, any int. -/
namespace TmG
open PySem PySem.Spec PyProof.Rows L2
theorem mul_same (l : Addr) (items : Array Value) (n : Nat) (dd : Option Addr) (sl : Array (Option Value)) (x : Int) (u : Tok) (c0 : (decide (x < -(2 ^ 63)) || decide (x ≥ 2 ^ 63)) = false) (c1 : (items.isEmpty || x == 1) = true) :
    Meets (Builtin.«tuple.__mul__» ⟨[.ref l, .int x u], []⟩) (fun _ R s => s.heap.get? l = some { cls := .type "tuple", dict := dd, data := .seq items n, slots := sl } ∧
      R (.ok (.ret (Value.ref l))) s) :=
  .of_wp fun prog w A R s h => by
    obtain ⟨hp, g, d, tk, os⟩ := s
    obtain ⟨hl, h⟩ := h
    have f1 := AutoSeq1.idx_int
    wp_walk using wpAny_loadPart' hl
    repeat (first
      | (refine wpAny_ite_false (decide_eq_false (by rw [c0]; exact Bool.false_ne_true)) ?_; wp_walk using wpAny_loadPart' hl)
      | (refine wpAny_ite_true (decide_eq_true c1) ?_; wp_walk using wpAny_loadPart' hl))
    exact ⟨_, rfl, h⟩
theorem mul_none (l : Addr) (items : Array Value) (n : Nat) (dd : Option Addr) (sl : Array (Option Value)) (x : Int) (u : Tok) (c0 : (decide (x < -(2 ^ 63)) || decide (x ≥ 2 ^ 63)) = false) (c1 : (items.isEmpty || x == 1) = false) (c2 : (decide (x ≤ 0) || items.isEmpty) = true) :
    Meets (Builtin.«tuple.__mul__» ⟨[.ref l, .int x u], []⟩) (fun _ R s => s.heap.get? l = some { cls := .type "tuple", dict := dd, data := .seq items n, slots := sl } ∧
      R (.ok (.ret (Value.ref s.heap.objs.size))) { s with heap := s.heap.push { cls := Value.type "tuple", data := Data.seq #[] }, toks := s.toks }) :=
  .of_wp fun prog w A R s h => by
    obtain ⟨hp, g, d, tk, os⟩ := s
    obtain ⟨hl, h⟩ := h
    have f1 := AutoSeq1.idx_int
    wp_walk using wpAny_loadPart' hl
    repeat (first
      | (refine wpAny_ite_false (decide_eq_false (by rw [c0]; exact Bool.false_ne_true)) ?_; wp_walk using wpAny_loadPart' hl)
      | (refine wpAny_ite_false (decide_eq_false (by rw [c1]; exact Bool.false_ne_true)) ?_; wp_walk using wpAny_loadPart' hl)
      | (refine wpAny_ite_true (decide_eq_true c2) ?_; wp_walk using wpAny_loadPart' hl))
    exact ⟨_, rfl, h⟩
def rRepG (K : PySem.W.Frag) : R2 := fun x y H Q => ∃ l k xs, x = .ref l ∧ y = .int k ∧ SqT K H l xs ∧ -(2 ^ 62) < k ∧ k < 2 ^ 62 ∧ xs.length * k.toNat ≤ 1000000 ∧ ((xs = [] ∨ k = 1) → Q (.ref l) H) ∧
  (¬ (xs = [] ∨ k = 1) → ∀ p, H p = none → Q (.ref p) (upd H p (.tup (List.replicate k.toNat xs).flatten)))
section
variable {X : Cx}
theorem op_repG : OpR X (binaryOp .Mult) (rRepG X.K) := by
  intro pins s σ H x y v u Q I rx ry h
  obtain ⟨l, k, xs, rfl, rfl, hT, h1, h2, hz, qs, qn⟩ := h
  cases rx
  obtain ⟨t, rfl⟩ := ry
  obtain ⟨its, r, ⟨⟨cls, dd, data, sl⟩, ho, hc, n, hd⟩, hs⟩ := I.tuple hT
  simp only at hc hd
  subst hc hd
  have hle : its.length = xs.length := r.length.symm
  have c0 : (decide (k < -(2 ^ 63)) || decide (k ≥ 2 ^ 63)) = false := by
    rw [decide_eq_false (by omega), decide_eq_false (by omega)] <;> rfl
  have hem : its.toArray.isEmpty = decide (xs = []) := by
    cases its with
    | nil => rw [decide_eq_true (List.eq_nil_of_length_eq_zero hle.symm)] <;> rfl
    | cons a b => rw [decide_eq_false (fun e => by rw [e] at hle; simp at hle)] <;> rfl
  refine wpAny_binaryOp_repeat_ref (T := "tuple") (U := "int") (by decide) ⟨_, ho, rfl⟩ (fun s' => typeIs_int s' k t) noFill_tuple_mul F.fills_int_mul F.slot_int_rmul repeat_tuple F.slot_int_index.lookup
    (call_meets F.slot_int_rmul (typeIs_int s k t) F.entry_int_rmul (F.args_int_rmul_2 _ _) (int_rmul_tuple k t l its.toArray n dd sl)
      ⟨ho, rfl, ⟨_, ho, rfl⟩, ?_⟩)
  by_cases hk : xs = [] ∨ k = 1
  · have c1 : (its.toArray.isEmpty || k == 1) = true := by
      rw [hem]
      rcases hk with h | h
      · rw [decide_eq_true h] <;> rfl
      · rw [h, Bool.or_eq_true]; exact .inr rfl
    exact call_meets F.slot_tuple_mul ⟨_, ho, rfl⟩ F.entry_tuple_mul (F.args_tuple_mul_2 _ _) (mul_same l its.toArray n dd sl k t c0 c1) ⟨ho, .ref l, H, I, rfl, qs hk⟩
  · have hne : xs ≠ [] := fun e => hk (.inl e)
    have hk1 : k ≠ 1 := fun e => hk (.inr e)
    have hi : its.toArray.isEmpty = false := by rw [hem]; exact decide_eq_false hne
    have c1 : (its.toArray.isEmpty || k == 1) = false := by
      rw [hi, Bool.false_or]
      exact beq_eq_false_iff_ne.mpr hk1
    by_cases h0 : k ≤ 0
    · have c2 : (decide (k ≤ 0) || its.toArray.isEmpty) = true := by rw [decide_eq_true h0] <;> rfl
      have ek : k.toNat = 0 := by omega
      have qn := qn hk
      rw [ek] at qn
      refine call_meets F.slot_tuple_mul ⟨_, ho, rfl⟩ F.entry_tuple_mul (F.args_tuple_mul_2 _ _) (mul_none l its.toArray n dd sl k t c0 c1 c2) ⟨ho, ?_⟩
      refine ⟨.ref s.heap.objs.size, _, I.laid (t' := s.toks) (o := .tup []) (fun b ob q => Heap.get?_push_of_some _ q) (Nat.le_refl _) ?_, rfl, qn _ (I.hok.fresh (Nat.le_refl _))⟩
      exact ⟨Nat.zero_le _, [], .nil, IsTup.new _ _⟩
    · have c2 : (decide (k ≤ 0) || its.toArray.isEmpty) = false := by
        rw [hi, Bool.or_false]
        exact decide_eq_false h0
      have hsz0 : its.toArray.size = xs.length := by rw [List.size_toArray, hle]
      have hm : ((its.toArray.size : Nat) : Int) * k ≤ 1000000 := by
        rw [hsz0]
        have e : ((xs.length * k.toNat : Nat) : Int) = (xs.length : Int) * k := by
          rw [Int.natCast_mul, Int.toNat_of_nonneg (by omega)]
        omega
      have fl : k.toNat * xs.length ≤ 1000000 := by rw [Nat.mul_comm]; exact hz
      have flen : (List.replicate k.toNat its).flatten.length ≤ sizeLine := by
        rw [PyProof.Rows.lm_len_rep_flat, hle, sizeLine_eq]
        omega
      have c4 : Builtin.Tuple.tupleTooMany (((its.toArray.size : Nat) : Int) * k) = false := by
        unfold Builtin.Tuple.tupleTooMany
        rw [sizeLine_eq]
        exact decide_eq_false (by omega)
      refine call_meets F.slot_tuple_mul ⟨_, ho, rfl⟩ F.entry_tuple_mul (F.args_tuple_mul_2 _ _) (tuple_mulW l its.toArray n dd sl k t c0 c1 c2 (by omega) c4 (by rw [size_rep, List.size_toArray]; exact flen)) ⟨ho, ?_⟩
      rw [size_rep]
      refine ⟨.ref s.heap.objs.size, _, I.laid (t' := s.toks) (o := .tup (List.replicate k.toNat xs).flatten) (fun b ob q => Heap.get?_push_of_some _ q) (Nat.le_refl _) ?_, rfl, qn hk _ (I.hok.fresh (Nat.le_refl _))⟩
      exact ⟨by rw [PyProof.Rows.lm_len_rep_flat, sizeLine_eq]; omega, _, r.rep k.toNat, IsTup.new _ _⟩
end
end TmG

set_option Elab.async false
set_option linter.all false
set_option maxRecDepth 100000
set_option maxHeartbeats 4000000
namespace Ev
open PySem L2

/-! ## the data, the store -/
inductive Ty where | int | bool | str | tuple | list | dict | nonety
  deriving DecidableEq
def Ty.nm : Ty → String | .int => "int" | .bool => "bool" | .str => "str" | .tuple => "tuple" | .list => "list" | .dict => "dict" | .nonety => "NoneType"
inductive D where
  | non | bl (b : Bool) | int (i : Int) | str (s : Str) | tup (ds : List D) | ref (n : Nat) | fn (k : Nat) | ty (t : Ty)
  | emp | opq | cls (k : Nat) | ins (k : Nat) (fs : List D)
/-- a list; a list that is only read now; a list of the module (only read); an instance, by its slots -/
inductive O where
  | lst (ds : List D) | rol (ds : List D) | kol (ds : List D) | scr (ns : List Int) | ins (k : Nat) (fs : List (Option D))
structure Mem where
  nx : Nat
  ob : List (Nat × O)
def look (n : Nat) : List (Nat × O) → Option O
  | [] => none
  | (k, o) :: r => match Nat.beq n k with | true => some o | false => look n r
def repl (n : Nat) (o : O) : List (Nat × O) → List (Nat × O)
  | [] => []
  | (k, u) :: r => match Nat.beq n k with | true => (k, o) :: r | false => (k, u) :: repl n o r
def Mem.get (m : Mem) (n : Nat) : Option O := look n m.ob
def Mem.put (m : Mem) (n : Nat) (o : O) : Mem := ⟨m.nx, repl n o m.ob⟩
def Mem.new (m : Mem) (o : O) : Mem := ⟨m.nx + 1, (m.nx, o) :: m.ob⟩
def Mem.lst (m : Mem) (n : Nat) : Option (List D) := match m.get n with
  | some (.lst ds) => some ds
  | some (.rol ds) => some ds
  | some (.kol ds) => some ds
  | some (.scr ns) => some (ns.map D.int)
  | some (.ins _ _) => none
  | none => none
/-! ### what is no longer wanted is forgotten -/
mutual
/-- no list named that is not below n -/
def lowD (n : Nat) : D → Bool
  | .ref k => Nat.blt k n
  | .tup ds => lowDs n ds
  | .ins _ ds => lowDs n ds
  | _ => true
def lowDs (n : Nat) : List D → Bool
  | [] => true
  | d :: ds => match lowD n d with | true => lowDs n ds | false => false
end
def lowF (n : Nat) : List (Option D) → Bool
  | [] => true
  | some d :: r => (match lowD n d with | true => lowF n r | false => false)
  | none :: r => lowF n r
def lowO (n : Nat) : O → Bool
  | .lst ds => lowDs n ds
  | .rol ds => lowDs n ds
  | .kol ds => lowDs n ds
  | .scr _ => true
  | .ins _ fs => lowF n fs
def gcL (n : Nat) : List (Nat × O) → List (Nat × O)
  | [] => []
  | (k, o) :: r => match Nat.blt k n with | true => (k, o) :: gcL n r | false => gcL n r
def lowM (n : Nat) : List (Nat × O) → Bool
  | [] => true
  | (k, o) :: r => match Nat.blt k n with
    | true => (match lowO n o with | true => lowM n r | false => false)
    | false => lowM n r
def cutM (n : Nat) (m : Mem) : Mem := ⟨n, gcL n m.ob⟩
def canCut (n : Nat) (m : Mem) : Bool := match Nat.beq m.nx n with | true => false | false => lowM n m.ob
def tdM (n : Nat) (m : Mem) : Mem := match canCut n m with | true => cutM n m | false => m
structure Ex where
  cls : Nat
  arg : List D
inductive Out (α : Type) where
  | ok (a : α) (m : Mem) | exc (x : Ex) (m : Mem) | bad
abbrev MV (α : Type) := Mem → Out α
def Out.bind {α β : Type} (o : Out α) (f : α → MV β) : Out β := match o with
  | .ok a m => f a m
  | .exc x m => .exc x m
  | .bad => .bad
def okk {α : Type} (a : α) : MV α := fun m => .ok a m
def opt {α : Type} (o : Option α) : MV α := fun m => match o with | some a => .ok a m | none => .bad
def newL (ds : List D) : MV D := fun m => match Nat.ble ds.length 16000000 with | true => .ok (.ref m.nx) (m.new (.lst ds)) | false => .bad

/-! ## operations -/
def omap {α β : Type} (f : α → Option β) : List α → Option (List β)
  | [] => some []
  | a :: r => match f a with
    | some b => (match omap f r with | some bs => some (b :: bs) | none => none)
    | none => none
def toPy (m : Mem) : Nat → D → Option PyData
  | _, .non => some .none
  | _, .bl b => some (.bool b)
  | _, .int i => some (.int i)
  | _, .str s => match PyData.strOk s with | true => some (.str s) | false => none
  | 0, _ => none
  | f + 1, .tup ds => (match omap (toPy m f) ds with | some xs => some (.tuple xs) | none => none)
  | f + 1, .ref n => (match m.lst n with
    | some ds => (match omap (toPy m f) ds with | some xs => some (.list xs) | none => none)
    | none => none)
  | _, _ => none
def deq (m : Mem) (a b : D) : Option Bool := match toPy m 9 a with
  | some x => (match toPy m 9 b with | some y => some (PyData.eqv x y) | none => none)
  | none => none

inductive BOp where | add | sub | mul | fdiv | mod | pow
inductive COp where | eq | ne | lt | le | gt | ge | is | isnot | in_ | notin
def b64 (i : Int) : Bool := decide (-18446744073709551616 < i) && decide (i < 18446744073709551616)
def mulOk (i j : Int) : Bool := b64 i || b64 j || Nat.blt (i.natAbs.log2 + j.natAbs.log2) 1000000
def sizeB (n : Nat) : Bool := Nat.ble n 16000000
def guardO {α : Type} (b : Bool) (a : α) : Option α := match b with | true => some a | false => none
def binI : BOp → Int → Int → Option Int
  | .add, i, j => some (i + j)
  | .sub, i, j => some (i - j)
  | .mul, i, j => guardO (mulOk i j) (i * j)
  | .fdiv, i, j => guardO (!decide (j = 0) && Nat.blt j.natAbs.log2 9000) (i.fdiv j)
  | .mod, i, j => guardO (!decide (j = 0)) (i.fmod j)
  | .pow, i, j => guardO (decide (0 ≤ j) && Nat.ble ((i.natAbs.log2 + 1) * j.toNat) 134217728) (i ^ j.toNat)
def binF (op : BOp) (a b : D) : MV D := fun m => match a, b with
  | .int i, .int j => opt ((binI op i j).map D.int) m
  | .str x, .str y => (match op with | .add => opt (guardO (sizeB (x.length + y.length)) (D.str (x ++ y))) m | _ => .bad)
  | .tup x, .tup y => (match op with | .add => opt (guardO (sizeB (x.length + y.length)) (D.tup (x ++ y))) m | _ => .bad)
  | .tup x, .int k => (match op with | .mul => opt (guardO (decide (-4611686018427387904 < k) && decide (k < 4611686018427387904) && Nat.ble (x.length * k.toNat) 1000000) (D.tup (List.replicate k.toNat x).flatten)) m | _ => .bad)
  | .ref p, .ref q => (match op with
    | .add => (match m.get p with
      | some (.lst x) => (match m.get q with | some (.lst y) => newL (x ++ y) m | _ => .bad)
      | _ => .bad)
    | _ => .bad)
  | .ref p, .int k => (match op with
    | .mul => (match m.get p with
      | some (.lst x) => (match Nat.ble (x.length * k.toNat) 16000000 && Nat.ble k.natAbs 16000000 with | true => newL (List.replicate k.toNat x).flatten m | false => .bad)
      | _ => .bad)
    | _ => .bad)
  | _, _ => .bad
def cmpI : COp → Int → Int → Option Bool
  | .eq, i, j => some (decide (i = j))
  | .ne, i, j => some (!decide (i = j))
  | .lt, i, j => some (decide (i < j))
  | .le, i, j => some (decide (i ≤ j))
  | .gt, i, j => some (decide (j < i))
  | .ge, i, j => some (decide (j ≤ i))
  | _, _, _ => none
def flatD : D → Bool
  | .non | .bl _ | .int _ | .str _ => true
  | _ => false
/-- == of flat data -/
def eqF : D → D → Bool
  | .non, .non => true
  | .bl a, .bl b => a == b
  | .bl a, .int j => (if a then 1 else 0) == j
  | .int i, .bl b => i == (if b then 1 else 0)
  | .int i, .int j => i == j
  | .str x, .str y => x == y
  | _, _ => false
def seqOf (m : Mem) : D → Option (List D)
  | .tup ds => some ds
  | .ref n => m.lst n
  | _ => none
def isNoneD : D → Option Bool
  | .non => some true
  | .bl _ | .int _ | .str _ | .tup _ | .ref _ | .emp | .ins _ _ | .cls _ => some false
  | _ => none
def cmpF (op : COp) (a b : D) (m : Mem) : Option Bool := match op with
  | .is => (match b with
    | .non => isNoneD a
    | .bl y => (match a with | .bl x => some (x == y) | _ => none)
    | _ => none)
  | .isnot => (match b with
    | .non => (isNoneD a).map (!·)
    | .bl y => (match a with | .bl x => some (!(x == y)) | _ => none)
    | _ => none)
  | .in_ => (match seqOf m b with
    | some ds => guardO (flatD a && ds.all flatD) (ds.any fun y => eqF y a)
    | none => none)
  | .notin => (match seqOf m b with
    | some ds => guardO (flatD a && ds.all flatD) (!ds.any fun y => eqF y a)
    | none => none)
  | .eq => (match a, b with | .int i, .int j => some (decide (i = j)) | _, _ => deq m a b)
  | .ne => (match a, b with | .int i, .int j => some (!decide (i = j)) | _, _ => (deq m a b).map (!·))
  | op => (match a, b with | .int i, .int j => cmpI op i j | _, _ => none)
def ixF (a b : D) : MV D := fun m => match b with
  | .int i => (match seqOf m a with
    | some ds => opt (atI ds i) m
    | none => .bad)
  | _ => .bad
def cutD (ds : List D) (lo hi : Option Int) : List D := (ds.drop (HT.sIx ds.length 0 lo)).take (HT.sIx ds.length ds.length hi - HT.sIx ds.length 0 lo)
def partD (no : Bool) (y : D) : Option (Option Int) := match no with
  | true => some none
  | false => (match y with | .int i => some (some i) | _ => none)
def sliceF (a : D) (lo hi : Option Int) : MV D := fun m => match a with
  | .tup ds => .ok (.tup (cutD ds lo hi)) m
  | .ref n => (match m.lst n with | some ds => newL (cutD ds lo hi) m | none => .bad)
  | _ => .bad
inductive Blt where | len | abs | max2 | min2 | int | isinst | all | any | list | tuple | sum | repr | sorted | min1 | max1
def boolsOf : List D → Option (List Bool)
  | [] => some []
  | .bl b :: r => (match boolsOf r with | some bs => some (b :: bs) | none => none)
  | _ :: _ => none
def intsOf : List D → Option (List Int)
  | [] => some []
  | .int b :: r => (match intsOf r with | some bs => some (b :: bs) | none => none)
  | _ :: _ => none
def leastI : List Int → Option Int
  | [] => none
  | i :: r => match leastI r with
    | none => some i
    | some j => match decide (j < i) with | true => some j | false => some i
def mostI : List Int → Option Int
  | [] => none
  | i :: r => match mostI r with
    | none => some i
    | some j => match decide (i < j) with | true => some j | false => some i
/-- a tuple of ints, not empty -/
def tupN : D → Option (List Int)
  | .tup (d :: ds) => intsOf (d :: ds)
  | _ => none
def nsD (d : D) : List Int := match tupN d with | some ns => ns | none => []
def tyOf (m : Mem) : D → Option Ty
  | .non => some .nonety
  | .bl _ => some .bool
  | .int _ => some .int
  | .str _ => some .str
  | .tup _ => some .tuple
  | .emp => some .dict
  | .ref n => (match m.lst n with | some _ => some .list | none => none)
  | _ => none
def isaT : Ty → Ty → Bool
  | .bool, .int => true
  | .int, .int | .bool, .bool | .str, .str | .tuple, .tuple | .list, .list | .dict, .dict | .nonety, .nonety => true
  | _, _ => false
def one {α : Type} (ds : List D) (f : D → Out α) : Out α := match ds with
  | [a] => f a
  | _ => .bad
def two {α : Type} (ds : List D) (f : D → D → Out α) : Out α := match ds with
  | [a, b] => f a b
  | _ => .bad
def onSeq {α : Type} (m : Mem) (a : D) (f : List D → Out α) : Out α := match seqOf m a with
  | some xs => f xs
  | none => .bad
def onInt {α : Type} (a : D) (f : Int → Out α) : Out α := match a with
  | .int i => f i
  | _ => .bad
/-- a list, by its items -/
def onLst {α : Type} (m : Mem) (a : D) (f : List D → Out α) : Out α := match a with
  | .ref n => (match m.lst n with | some xs => f xs | none => .bad)
  | _ => .bad
def onSome {α β : Type} (o : Option β) (f : β → Out α) : Out α := match o with
  | some x => f x
  | none => .bad
def lenF (a : D) : MV D := fun m => match a with
  | .str s => opt (guardO (sizeB s.length) (.int s.length)) m
  | a => onSeq m a fun xs => .ok (.int xs.length) m
def intF (a : D) : MV D := fun m => match a with
  | .int i => .ok (.int i) m
  | .bl b => .ok (.int (if b then 1 else 0)) m
  | _ => .bad
def isaF (a t : D) : MV D := fun m => match t with
  | .ty t => onSome (tyOf m a) fun u => .ok (.bl (isaT u t)) m
  | _ => .bad
def reprF (a : D) : MV D := fun m => onSome (toPy m 9 a) fun x => opt (guardO (x.showable && sizeB x.shown.length) (.str x.shown)) m
def bltF (b : Blt) (ds : List D) : MV D := fun m => match b with
  | .len => one ds fun a => lenF a m
  | .abs => one ds fun a => onInt a fun i => .ok (.int (if i < 0 then -i else i)) m
  | .max2 => two ds fun a b => onInt a fun i => onInt b fun j => .ok (.int (if i < j then j else i)) m
  | .min2 => two ds fun a b => onInt a fun i => onInt b fun j => .ok (.int (if j < i then j else i)) m
  | .int => one ds fun a => intF a m
  | .isinst => two ds fun a t => isaF a t m
  | .all => one ds fun a => onLst m a fun xs => onSome (boolsOf xs) fun bs => .ok (.bl (bs.all id)) m
  | .any => one ds fun a => onLst m a fun xs => onSome (boolsOf xs) fun bs => .ok (.bl (bs.any id)) m
  | .list => one ds fun a => onSeq m a fun xs => newL xs m
  | .tuple => one ds fun a => onSeq m a fun xs => .ok (.tup xs) m
  | .sum => one ds fun a => onLst m a fun xs => onSome (intsOf xs) fun is => .ok (.int is.sum) m
  | .repr => one ds fun a => reprF a m
  | .min1 => one ds fun a => onLst m a fun xs => onSome (intsOf xs) fun is => onSome (leastI is) fun i => .ok (.int i) m
  | .max1 => one ds fun a => onLst m a fun xs => onSome (intsOf xs) fun is => onSome (mostI is) fun i => .ok (.int i) m
  | .sorted => one ds fun a => onLst m a fun xs => onSome (omap tupN xs) fun _ => newL (SrtO.sortS (fun x y => SrtO.lexI (nsD x) (nsD y)) xs) m

/-! ## the language -/
/-- a clause of a try: of which class; the value that it gives, or a text and the repr of what is kept -/
inductive Hd where | ret (k : Nat) (d : D) | rep (k : Nat) (s : Str)
inductive E where
  | var (i : Nat) | const (d : D) | no
  | nil | cons (e es : E)
  | tup (es : E) | lst (es : E)
  | bin (op : BOp) (a b : E) | neg (a : E)
  | cmp (op : COp) (a b : E) | chain (o1 o2 : COp) (a b c : E)
  | band (a b : E) | bor (a b : E) | bnot (a : E) | ite (c a b : E)
  | call (k : Nat) (es : E) | blt (b : Blt) (es : E) | callv (f : E) (es : E)
  | ix (a b : E) | slice (a l h : E)
  | rng1 (a : E) | rng2 (a b : E) | rng3 (a b c : E) | enumE (a : E) | zipE (a b : E) | isc (L : List (Nat × Nat)) (e : E) | rev (e : E)
  | tnm (i : Nat) | tnil | tcons (t ts : E) | ttup (ts : E) | tsub (o i : E)
  | comp (own : List Nat) (t : E) (it : E) (c : E) (elt : E) | yes
  | met (n : Nat) (hs : List Hd) (d : D) (b : E)
  | chain3 (o1 o2 o3 : COp) (a b c e : E)
  | emp
  | fld (L : List (Nat × Nat)) (e : E) | mk (k np j : Nat) (es : E) | mcall (L : List (Nat × Nat)) (o es : E) | prop (L : List (Nat × Nat)) (o : E) | lamv | tfld (L : List (Nat × Nat)) (o : E)
def E.isNo : E → Bool
  | .no => true
  | _ => false
abbrev Rho := List (Option D)
def getR : Rho → Nat → Option D
  | [], _ => none
  | x :: _, 0 => x
  | _ :: r, n + 1 => getR r n
def wipeR (ρ : Rho) : List Nat → Rho
  | [] => ρ
  | v :: vs => (wipeR ρ vs).set v none
def lowR (n : Nat) : Rho → Rho
  | [] => []
  | some d :: r => (match lowD n d with | true => some d | false => none) :: lowR n r
  | none :: r => none :: lowR n r
def lowAll (n : Nat) : Rho → Bool
  | [] => true
  | some d :: r => (match lowD n d with | true => lowAll n r | false => false)
  | none :: r => lowAll n r
/-- behind a statement: what it made and nobody holds is forgotten -/
def tdS (n : Nat) (ρ : Rho) (m : Mem) : Mem := match canCut n m with
  | true => (match lowAll n ρ with | true => cutM n m | false => m)
  | false => m
def tdR (n : Nat) (m : Mem) (ρ : Rho) : Rho := match canCut n m with | true => lowR n ρ | false => ρ
def iota (a : Int) : Nat → List D
  | 0 => []
  | n + 1 => .int a :: iota (a + 1) n
/-- a list is held as read-only while f runs -/
def holdL {α : Type} (n : Nat) (f : MV α) : MV α := fun m => match m.get n with
  | some (.lst ds) => (match f (m.put n (.rol ds)) with
    | .ok a m' => .ok a (m'.put n (.lst ds))
    | .exc x m' => .exc x (m'.put n (.lst ds))
    | .bad => .bad)
  | some _ => f m
  | none => .bad
/-- what a for, a comprehension walks: the items, the list that is held -/
inductive Src where | items (ds : List D) | held (n : Nat) (ds : List D) | held2 (n k : Nat) (ds : List D)
def setItemF (o i d : D) : MV Unit := fun m => match o, i with
  | .ref n, .int k => (match m.get n with
    | some (.lst ds) => (match ixN ds.length k with
      | some j => .ok () (m.put n (.lst (ds.set j d)))
      | none => .bad)
    | _ => .bad)
  | _, _ => .bad
/-- the defs that may be called: here; in a lambda's body -/
structure Fns where
  F : Nat → List D → MV D
  L : Nat → List D → MV D
def Fns.low (V : Fns) : Fns := ⟨V.L, fun _ _ _ => .bad⟩
section
variable (F : Nat → List D → MV D)
def compL (asg : D → MV Rho) (c : Rho → MV Bool) (elt : Rho → MV D) : List D → List D → MV (List D)
  | [], acc => fun m => .ok acc.reverse m
  | d :: r, acc => fun m => (asg d m).bind (fun ρ m1 => (c ρ m1).bind (fun b m2 => match b with
    | true => (elt ρ m2).bind fun x m3 => compL asg c elt r (x :: acc) m3
    | false => compL asg c elt r acc m2) ) 
def noX {α : Type} (o : Out α) : Out α := match o with
  | .exc _ _ => .bad
  | o => o
def truth (d : D) : MV Bool := fun m => match d with | .bl b => .ok b m | _ => .bad
def tupl (d : D) : MV (List D) := fun m => match d with | .tup ds => .ok ds m | _ => .bad
def srcOf (d : D) : MV Src := fun m => match d with
  | .tup ds => .ok (.items ds) m
  | .ref n => (match m.lst n with | some ds => .ok (.held n ds) m | none => .bad)
  | _ => .bad
def onSrc {α : Type} (s : Src) (f : List D → MV α) : MV α := match s with
  | .items ds => f ds
  | .held n ds => holdL n (f ds)
  | .held2 n k ds => holdL n (holdL k (f ds))
def small (i : Int) : Bool := decide (-4611686018427387904 ≤ i) && decide (i < 4611686018427387904)
def rngI (a b : Int) : MV Src := fun m => match small a && small b with
  | true => .ok (.items (iota a (b - a).toNat)) m
  | false => .bad
def iotaC (a c : Int) : Nat → List D
  | 0 => []
  | n + 1 => .int a :: iotaC (a + c) c n
def rngC (a b c : Int) : MV Src := fun m => match !decide (c = 0) && decide (c.natAbs < 1073741824) && Builtin.Range.small a b c && decide (0 ≤ Builtin.Range.rangeSize a b c) with
  | true => .ok (.items (iotaC a c (Builtin.Range.rangeSize a b c).toNat)) m
  | false => .bad
def enumD (i : Int) : List D → List D
  | [] => []
  | d :: r => .tup [.int i, d] :: enumD (i + 1) r
def zipD : List D → List D → List D
  | a :: r, b :: s => .tup [a, b] :: zipD r s
  | _, _ => []
def enumS : Src → Src
  | .items ds => .items (enumD 0 ds)
  | .held n ds => .held n (enumD 0 ds)
  | s => s
def zipS : Src → Src → Option Src
  | .items xs, .items ys => some (.items (zipD xs ys))
  | .items xs, .held k ys => some (.held k (zipD xs ys))
  | .held n xs, .items ys => some (.held n (zipD xs ys))
  | .held n xs, .held k ys => some (.held2 n k (zipD xs ys))
  | _, _ => none
/-! ### meanings of the parts -/
def cmpM (op : COp) : D → D → MV D := fun d e m => opt ((cmpF op d e m).map D.bl) m
def consM (fa fb : Rho → MV D) : Rho → MV D := fun ρ m => (fa ρ m).bind fun x m1 => (fb ρ m1).bind fun y m2 => match y with | .tup ys => .ok (.tup (x :: ys)) m2 | _ => .bad
def lstM (fa : Rho → MV D) : Rho → MV D := fun ρ m => (fa ρ m).bind fun x m1 => match x with | .tup ys => newL ys m1 | _ => .bad
def bin2 (f : D → D → MV D) (fa fb : Rho → MV D) : Rho → MV D := fun ρ m => (fa ρ m).bind fun x m1 => (fb ρ m1).bind fun y m2 => f x y m2
def negM (fa : Rho → MV D) : Rho → MV D := fun ρ m => (fa ρ m).bind fun x m1 => match x with | .int i => .ok (.int (-i)) m1 | _ => .bad
def testM (fa : Rho → MV D) : Rho → MV Bool := fun ρ m => (fa ρ m).bind truth
/-- by a bool, two ways -/
def sel {α : Type} (d : D) (A B : Out α) : Out α := match d with
  | .bl true => A
  | .bl false => B
  | _ => .bad
def iteM (fc fa fb : Rho → MV D) : Rho → MV D := fun ρ m => (fc ρ m).bind fun x m1 => sel x (fa ρ m1) (fb ρ m1)
def bandM (fa fb : Rho → MV D) : Rho → MV D := fun ρ m => (fa ρ m).bind fun x m1 => sel x (fb ρ m1) (.ok (.bl false) m1)
def borM (fa fb : Rho → MV D) : Rho → MV D := fun ρ m => (fa ρ m).bind fun x m1 => sel x (.ok (.bl true) m1) (fb ρ m1)
def notM (fa : Rho → MV D) : Rho → MV D := fun ρ m => (fa ρ m).bind fun x m1 => sel x (.ok (.bl false) m1) (.ok (.bl true) m1)
def chainM (o1 o2 : COp) (fa fb fc : Rho → MV D) : Rho → MV D := fun ρ m => (fa ρ m).bind fun x m1 => (fb ρ m1).bind fun y m2 => (cmpM o1 x y m2).bind fun r m3 => sel r ((fc ρ m3).bind fun z m4 => cmpM o2 y z m4) (.ok (.bl false) m3)
def callM (k : Nat) (fa : Rho → MV D) : Rho → MV D := fun ρ m => (fa ρ m).bind fun x m1 => match x with | .tup ys => F k ys m1 | _ => .bad
def callvM (ff fa : Rho → MV D) : Rho → MV D := fun ρ m => (ff ρ m).bind fun v m1 => match v with | .fn k => callM F k fa ρ m1 | _ => .bad
def bltM (b : Blt) (fa : Rho → MV D) : Rho → MV D := fun ρ m => (fa ρ m).bind fun x m1 => match x with | .tup ys => bltF b ys m1 | _ => .bad
def partM (no : Bool) (f : Rho → MV D) : Rho → MV (Option Int) := fun ρ m => (f ρ m).bind fun y => opt (partD no y)
def sliceM (fa : Rho → MV D) (fl fh : Rho → MV (Option Int)) : Rho → MV D := fun ρ m => (fa ρ m).bind fun x m1 => (fl ρ m1).bind fun lo m2 => (fh ρ m2).bind fun hi m3 => sliceF x lo hi m3
def rng1M (fa : Rho → MV D) : Rho → MV Src := fun ρ m => (fa ρ m).bind fun x m1 => match x with | .int i => rngI 0 i m1 | _ => .bad
def rng2M (fa fb : Rho → MV D) : Rho → MV Src := fun ρ m => (fa ρ m).bind fun x m1 => (fb ρ m1).bind fun y m2 => match x, y with | .int i, .int j => rngI i j m2 | _, _ => .bad
def rng3M (fa fb fc : Rho → MV D) : Rho → MV Src := fun ρ m => (fa ρ m).bind fun x m1 => (fb ρ m1).bind fun y m2 => (fc ρ m2).bind fun z m3 => match x, y, z with | .int i, .int j, .int k => rngC i j k m3 | _, _, _ => .bad
def enumM (fa : Rho → MV D) : Rho → MV Src := fun ρ m => (fa ρ m).bind fun x m1 => (srcOf x m1).bind fun s m2 => .ok (enumS s) m2
def zipM (fa fb : Rho → MV D) : Rho → MV Src := fun ρ m => (fa ρ m).bind fun x m1 => (fb ρ m1).bind fun y m2 => (srcOf x m2).bind fun s m3 => (srcOf y m3).bind fun t m4 => onSome (zipS s t) fun u => .ok u m4
def revM (fa : Rho → MV D) : Rho → MV D := fun ρ m => (fa ρ m).bind fun x m1 => onLst m1 x fun ds => newL ds.reverse m1
def tnmM (i : Nat) : D → Rho → MV Rho := fun d ρ m => .ok (ρ.set i (some d)) m
def tnilM : D → Rho → MV Rho := fun d ρ m => match d with | .tup [] => .ok ρ m | _ => .bad
def tconsM (ft fs : D → Rho → MV Rho) : D → Rho → MV Rho := fun d ρ m => match d with | .tup (x :: r) => (ft x ρ m).bind fun ρ1 m1 => fs (.tup r) ρ1 m1 | _ => .bad
def tsubM (fo fi : Rho → MV D) : D → Rho → MV Rho := fun d ρ m => (fo ρ m).bind fun x m1 => (fi ρ m1).bind fun y m2 => (setItemF x y d m2).bind fun _ m3 => .ok ρ m3
def compM (own : List Nat) (ft : D → Rho → MV Rho) (fs : Rho → MV Src) (fc fe : Rho → MV D) : Rho → MV D := fun ρ m => (fs ρ m).bind fun s m1 =>
  (noX (onSrc s (fun ds => compL (fun d m => ft d (wipeR ρ own) m) (testM fc) fe ds []) m1)).bind newL
def hdM (x : Ex) (m : Mem) : List Hd → Out D
  | [] => .bad
  | .ret k d :: r => (match Nat.beq x.cls k with | true => .ok d m | false => hdM x m r)
  | .rep k s :: r => (match Nat.beq x.cls k with
    | true => (match x.arg with
      | [d] => (reprF d m).bind fun y m1 => binF .add (.str s) y m1
      | _ => .bad)
    | false => hdM x m r)
/-- a def that calls what it got, and tells the error met -/
def metM (n : Nat) (hs : List Hd) (d : D) (fb : Rho → MV D) : Rho → MV D := fun ρ m => match fb ρ m with
  | .ok _ m' => .ok d m'
  | .exc x m' => (match Nat.blt x.cls n with | true => hdM x m' hs | false => .bad)
  | .bad => .bad
def chain3M (o1 o2 o3 : COp) (fa fb fc fd : Rho → MV D) : Rho → MV D := fun ρ m => (fa ρ m).bind fun x m1 => (fb ρ m1).bind fun y m2 => (cmpM o1 x y m2).bind fun r m3 =>
  sel r ((fc ρ m3).bind fun z m4 => (cmpM o2 y z m4).bind fun r2 m5 => sel r2 ((fd ρ m5).bind fun w m6 => cmpM o3 z w m6) (.ok (.bl false) m5)) (.ok (.bl false) m3)
end
/-! ### instances -/
def lkp (k : Nat) : List (Nat × Nat) → Option Nat
  | [] => none
  | (j, i) :: r => match Nat.beq k j with | true => some i | false => lkp k r
/-- an instance, by its class and slots -/
def onIns {α : Type} (m : Mem) (x : D) (f : Nat → Nat → List (Option D) → Out α) : Out α := match x with
  | .ref n => (match m.get n with | some (.ins k fs) => f n k fs | _ => .bad)
  | _ => .bad
def fldF (L : List (Nat × Nat)) (x : D) : MV D := fun m => onIns m x fun _ k fs => onSome (lkp k L) fun i => opt (getR fs i) m
def setfF (L : List (Nat × Nat)) (x d : D) : MV Unit := fun m => onIns m x fun n k fs => onSome (lkp k L) fun i => match Nat.blt i fs.length with
  | true => .ok () (m.put n (.ins k (fs.set i (some d))))
  | false => .bad
def fldM (L : List (Nat × Nat)) (fa : Rho → MV D) : Rho → MV D := fun ρ m => (fa ρ m).bind fun x m1 => fldF L x m1
def tfldM (L : List (Nat × Nat)) (fo : Rho → MV D) : D → Rho → MV Rho := fun d ρ m => (fo ρ m).bind fun x m1 => (setfF L x d m1).bind fun _ m2 => .ok ρ m2
def isNonM (r n : D) : MV D := fun m => match r with | .non => .ok n m | _ => .bad
def mkM (F : Nat → List D → MV D) (k np j : Nat) (fa : Rho → MV D) : Rho → MV D := fun ρ m => (fa ρ m).bind fun x m1 => match x with
  | .tup ds => (F j (.ref m1.nx :: ds) (m1.new (.ins k (List.replicate np none)))).bind fun r m2 => isNonM r (.ref m1.nx) m2
  | _ => .bad
def mcallM (F : Nat → List D → MV D) (L : List (Nat × Nat)) (fo fa : Rho → MV D) : Rho → MV D := fun ρ m => (fo ρ m).bind fun x m1 => onIns m1 x fun _ k _ => onSome (lkp k L) fun j => (fa ρ m1).bind fun y m2 => match y with
  | .tup ds => F j (x :: ds) m2
  | _ => .bad
def propM (F : Nat → List D → MV D) (L : List (Nat × Nat)) (fo : Rho → MV D) : Rho → MV D := fun ρ m => (fo ρ m).bind fun x m1 => onIns m1 x fun _ k _ => onSome (lkp k L) fun j => noX (F j [x] m1)
/-- isinstance(x, C): L tells, for each class of instances, whether it is C -/
def iscF (L : List (Nat × Nat)) (x : D) : MV D := fun m => match x with
  | .ref n => (match m.get n with
    | some (.ins k _) => onSome (lkp k L) fun i => .ok (.bl (Nat.beq i 1)) m
    | _ => onSome (tyOf m x) fun _ => .ok (.bl false) m)
  | _ => onSome (tyOf m x) fun _ => .ok (.bl false) m
def iscM (L : List (Nat × Nat)) (fa : Rho → MV D) : Rho → MV D := fun ρ m => (fa ρ m).bind fun x m1 => iscF L x m1
/-- the meanings of a part: as a value; as what is walked; as a target -/
structure Mean where
  e : Rho → MV D
  s : Rho → MV Src
  t : D → Rho → MV Rho
def asV (f : Rho → MV D) : Mean := ⟨f, fun ρ m => (f ρ m).bind srcOf, fun _ _ _ => .bad⟩
def asS (f : Rho → MV Src) : Mean := ⟨fun _ _ => .bad, f, fun _ _ _ => .bad⟩
def asT (f : D → Rho → MV Rho) : Mean := ⟨fun _ _ => .bad, fun _ _ => .bad, f⟩
def den (V : Fns) : E → Mean
  | .var i => asV fun ρ => opt (getR ρ i)
  | .const d => asV fun _ => okk d
  | .no => asV fun _ => okk .non
  | .yes => asV fun _ => okk (.bl true)
  | .nil => asV fun _ => okk (.tup [])
  | .cons a b => asV (consM (den V a).e (den V b).e)
  | .tup a => asV (den V a).e
  | .lst a => asV (lstM (den V a).e)
  | .bin op a b => asV (bin2 (binF op) (den V a).e (den V b).e)
  | .neg a => asV (negM (den V a).e)
  | .cmp op a b => asV (bin2 (cmpM op) (den V a).e (den V b).e)
  | .chain o1 o2 a b c => asV (chainM o1 o2 (den V a).e (den V b).e (den V c).e)
  | .band a b => asV (bandM (den V a).e (den V b).e)
  | .bor a b => asV (borM (den V a).e (den V b).e)
  | .bnot a => asV (notM (den V a).e)
  | .ite c a b => asV (iteM (den V c).e (den V a).e (den V b).e)
  | .call k a => asV (callM V.F k (den V a).e)
  | .callv f a => asV (callvM V.F (den V f).e (den V a).e)
  | .blt b a => asV (bltM b (den V a).e)
  | .ix a b => asV (bin2 ixF (den V a).e (den V b).e)
  | .slice a l h => asV (sliceM (den V a).e (partM l.isNo (den V l).e) (partM h.isNo (den V h).e))
  | .rng1 a => asS (rng1M (den V a).e)
  | .rng2 a b => asS (rng2M (den V a).e (den V b).e)
  | .rng3 a b c => asS (rng3M (den V a).e (den V b).e (den V c).e)
  | .enumE a => asS (enumM (den V a).e)
  | .zipE a b => asS (zipM (den V a).e (den V b).e)
  | .isc L e => asV (iscM L (den V e).e)
  | .rev e => asV (revM (den V e).e)
  | .tnm i => asT (tnmM i)
  | .tnil => asT tnilM
  | .tcons t ts => asT (tconsM (den V t).t (den V ts).t)
  | .ttup t => asT (den V t).t
  | .tsub o i => asT (tsubM (den V o).e (den V i).e)
  | .emp => asV fun _ => okk .emp
  | .lamv => asV fun _ => okk .opq
  | .fld L e => asV (fldM L (den V e).e)
  | .mk k np j es => asV (mkM V.L k np j (den V es).e)
  | .mcall L o es => asV (mcallM V.F L (den V o).e (den V es).e)
  | .prop L o => asV (propM V.L L (den V o).e)
  | .tfld L o => asT (tfldM L (den V o).e)
  | .met n hs d b => asV (metM n hs d (den V.low b).e)
  | .chain3 o1 o2 o3 a b c d => asV (chain3M o1 o2 o3 (den V a).e (den V b).e (den V c).e (den V d).e)
  | .comp own t it c elt => asV (compM own (den V t).t (den V it).s (den V c).e (den V elt).e)

inductive S where
  | skip | seq (a b : S) | asg (t e : E) | par (i j : Nat) (es : E) | par3 (i j l : Nat) (es : E)
  | aug (i : Nat) (op : BOp) (e : E) | augs (o i : E) (op : BOp) (e : E)
  | expr (e : E) | append (o e : E) | ret (e : E) | iff (c : E) (a b : S) | whil (c : E) (b : S) | forr (t it : E) (b : S) | brk | cnt
  | raise (k : Nat) (es : E)
/-- a part that does not read the slot i (a sure sign) -/
def noVar (i : Nat) : E → Bool
  | .var j => !Nat.beq i j
  | .const _ | .nil | .no | .emp | .yes => true
  | .cons a b | .bin _ a b | .ix a b | .cmp _ a b => (match noVar i a with | true => noVar i b | false => false)
  | .tup a | .lst a | .neg a | .call _ a | .blt _ a => noVar i a
  | _ => false
/-- what a loop's body writes first, unread -/
def leadS : S → List Nat
  | .seq (.asg (.tnm i) e) _ => (match noVar i e with | true => [i] | false => [])
  | _ => []
inductive OutS where
  | nx (ρ : Rho) (m : Mem) | brk (ρ : Rho) (m : Mem) | cnt (ρ : Rho) (m : Mem) | ret (d : D) (m : Mem) | exc (x : Ex) (ρ : Rho) (m : Mem) | bad
def Out.st {α : Type} (o : Out α) (ρ : Rho) (f : α → Mem → OutS) : OutS := match o with
  | .ok a m => f a m
  | .exc x m => .exc x ρ m
  | .bad => .bad
/-- behind a turn: what it made and nobody holds is forgotten; vs: what the next turn writes before it reads -/
def tdL (n : Nat) (vs : List Nat) (ρ : Rho) (m : Mem) : Rho × Mem := match canCut n m with
  | false => (ρ, m)
  | true => (match lowAll n ρ with
    | true => (ρ, cutM n m)
    | false => (match lowAll n (wipeR ρ vs) with
      | true => (wipeR ρ vs, cutM n m)
      | false => (ρ, m)))
def whileL (vs : List Nat) (c : Rho → MV Bool) (b : Rho → Mem → OutS) : Nat → Rho → Mem → OutS
  | 0, _, _ => .bad
  | n + 1, ρ, m => (c ρ m).st ρ fun t m1 => match t with
    | false => .nx ρ m1
    | true => (match b ρ m1 with
      | .nx ρ' m' => whileL vs c b n (tdL m.nx vs ρ' m').1 (tdL m.nx vs ρ' m').2
      | .cnt ρ' m' => whileL vs c b n (tdL m.nx vs ρ' m').1 (tdL m.nx vs ρ' m').2
      | .brk ρ' m' => .nx ρ' m'
      | .ret d m' => .ret d m'
      | .exc x ρ' m' => .exc x ρ' m'
      | .bad => .bad)
def forL (vs : List Nat) (a : D → Rho → MV Rho) (b : Rho → Mem → OutS) : List D → Rho → Mem → OutS
  | [], ρ, m => .nx ρ m
  | d :: r, ρ, m => (a d ρ m).st ρ fun ρ1 m1 => (match b ρ1 m1 with
      | .nx ρ' m' => forL vs a b r (tdL m.nx vs ρ' m').1 (tdL m.nx vs ρ' m').2
      | .cnt ρ' m' => forL vs a b r (tdL m.nx vs ρ' m').1 (tdL m.nx vs ρ' m').2
      | .brk ρ' m' => .nx ρ' m'
      | .ret d m' => .ret d m'
      | .exc x ρ' m' => .exc x ρ' m'
      | .bad => .bad)
def holdS (n : Nat) (f : Mem → OutS) : Mem → OutS := fun m => match m.get n with
  | some (.lst ds) => (match f (m.put n (.rol ds)) with
    | .nx ρ m' => .nx ρ (m'.put n (.lst ds))
    | .brk ρ m' => .brk ρ (m'.put n (.lst ds))
    | .cnt ρ m' => .cnt ρ (m'.put n (.lst ds))
    | .ret d m' => .ret d (m'.put n (.lst ds))
    | .exc x ρ m' => .exc x ρ (m'.put n (.lst ds))
    | .bad => .bad)
  | some _ => f m
  | none => .bad
def onSrcS (s : Src) (f : List D → Mem → OutS) : Mem → OutS := match s with
  | .items ds => f ds
  | .held n ds => holdS n (f ds)
  | .held2 n k ds => holdS n (holdS k (f ds))
/-- the most turns of a while -/
def wMost : Nat := 1000000000000
def appF (o d : D) : MV Unit := fun m => match o with
  | .ref n => (match m.get n with
    | some (.lst ds) => (match sizeB (ds.length + 1) with | true => .ok () (m.put n (.lst (ds ++ [d]))) | false => .bad)
    | _ => .bad)
  | _ => .bad
def denS (V : Fns) : S → Rho → Mem → OutS
  | .skip, ρ, m => .nx ρ m
  | .seq a b, ρ, m => (match denS V a ρ m with | .nx ρ' m' => denS V b ρ' (tdS m.nx ρ' m') | o => o)
  | .asg t e, ρ, m => ((den V e).e ρ m).st ρ fun d m1 => (noX ((den V t).t d ρ m1)).st ρ fun ρ' m' => .nx ρ' m'
  | .par i j es, ρ, m => ((den V es).e ρ m).st ρ fun d m1 => (match d with | .tup [x, y] => .nx ((ρ.set i (some x)).set j (some y)) m1 | _ => .bad)
  | .par3 i j l es, ρ, m => ((den V es).e ρ m).st ρ fun d m1 => (match d with | .tup [x, y, z] => .nx (((ρ.set i (some x)).set j (some y)).set l (some z)) m1 | _ => .bad)
  | .aug i op e, ρ, m => (match getR ρ i with
    | some x => ((den V e).e ρ m).st ρ fun y m1 => (match x, y with | .int a, .int b => (opt (binI op a b) m1).st ρ fun r m2 => .nx (ρ.set i (some (.int r))) m2 | _, _ => .bad)
    | none => .bad)
  | .augs o i op e, ρ, m => ((den V o).e ρ m).st ρ fun x m1 => ((den V i).e ρ m1).st ρ fun y m2 => (onLst m2 x fun _ => ixF x y m2).st ρ fun v m3 => ((den V e).e ρ m3).st ρ fun w m4 => (match v, w with
    | .int a, .int b => (opt (binI op a b) m4).st ρ fun r m5 => (setItemF x y (.int r) m5).st ρ fun _ m6 => .nx ρ m6
    | _, _ => .bad)
  | .expr e, ρ, m => ((den V e).e ρ m).st ρ fun _ m1 => .nx ρ m1
  | .append o e, ρ, m => ((den V o).e ρ m).st ρ fun x m1 => (onLst m1 x fun _ => .ok () m1).st ρ fun _ m1 => ((den V e).e ρ m1).st ρ fun d m2 => (appF x d m2).st ρ fun _ m3 => .nx ρ m3
  | .ret e, ρ, m => ((den V e).e ρ m).st ρ fun d m1 => .ret d m1
  | .iff c a b, ρ, m => (testM (den V c).e ρ m).st ρ fun t m1 => (match t with | true => denS V a ρ m1 | false => denS V b ρ m1)
  | .whil c b, ρ, m => whileL (leadS b) (testM (den V c).e) (fun ρ m => denS V b ρ m) wMost ρ m
  | .forr t it b, ρ, m => ((den V it).s ρ m).st ρ fun s m1 => onSrcS s (fun ds => forL (leadS b) (fun d ρ m => noX ((den V t).t d ρ m)) (fun ρ m => denS V b ρ m) ds ρ) m1
  | .brk, ρ, m => .brk ρ m
  | .cnt, ρ, m => .cnt ρ m
  | .raise k es, ρ, m => ((den V es).e ρ m).st ρ fun d m1 => (match d with | .tup ds => .exc ⟨k, ds⟩ ρ m1 | _ => .bad)
/-! ## functions -/
structure Fn where
  np : Nat
  nl : Nat
  body : S
  dr : List (List Nat)
/-- all that nobody holds is forgotten, down to n -/
def tdMin : Nat → Nat → Rho → Mem → Mem
  | 0, _, _, m => m
  | k + 1, n, ρ, m => (match Nat.blt n m.nx with
    | false => m
    | true => (match lowAll n ρ with
      | true => (match lowM n m.ob with
        | true => cutM n m
        | false => tdMin k (n + 1) ρ m)
      | false => tdMin k (n + 1) ρ m))
/-- a def's body: behind each statement some slots are forgotten -/
def denTop (V : Fns) (n : Nat) : List (List Nat) → S → Rho → Mem → OutS
  | vs :: dr, .seq a b, ρ, m => (match denS V a ρ m with
    | .nx ρ' m' => denTop V n dr b (wipeR ρ' vs) (tdMin 64 n (wipeR ρ' vs) m')
    | o => o)
  | _, s, ρ, m => denS V s ρ m
def finM (n : Nat) (d : D) (m : Mem) : Out D := match canCut n m with
  | true => (match lowD n d with
    | true => .ok d (cutM n m)
    | false => (match d with
      | .ref r => (match m.get r with
        | some (.lst ds) => (match lowDs n ds with
          | true => .ok (.ref n) ⟨n + 1, (n, .lst ds) :: gcL n m.ob⟩
          | false => .ok d m)
        | some (.ins k fs) => (match lowF n fs with
          | true => .ok (.ref n) ⟨n + 1, (n, .ins k fs) :: gcL n m.ob⟩
          | false => .ok d m)
        | _ => .ok d m)
      | _ => .ok d m))
  | false => .ok d m
def fin (n : Nat) : OutS → Out D
  | .ret d m => finM n d m
  | .nx _ m => .ok .non (tdM n m)
  | .exc x _ m => (match lowDs n x.arg with | true => .exc x (tdM n m) | false => .exc x m)
  | _ => .bad
def startR (f : Fn) (ds : List D) : Rho := ds.map some ++ List.replicate (f.nl - ds.length) none
/-- one def, by what it may call -/
def stepF (T : Nat → Option Fn) (V : Fns) : Nat → List D → MV D := fun k ds m => match T k with
  | some f => (match Nat.beq ds.length f.np && Nat.ble f.np f.nl with | true => fin m.nx (denTop V m.nx f.dr f.body (startR f ds) m) | false => .bad)
  | none => .bad
def noF : Nat → List D → MV D := fun _ _ _ => .bad
def run (T : Nat → Option Fn) : Nat → Nat → List D → MV D
  | 0 => noF
  | 1 => stepF T ⟨noF, noF⟩
  | 2 => stepF T ⟨run T 1, noF⟩
  | n + 3 => stepF T ⟨run T (n + 2), run T n⟩
end Ev

set_option Elab.async false
set_option linter.all false
set_option maxRecDepth 100000
set_option maxHeartbeats 4000000
namespace Ev
open PySem PySem.Spec PyProof.Rows L2

/-! ## how data lies in the heap -/
/-- a table of code objects -/
def isT : HO → Bool
  | .tbl _ => true
  | .own _ => true
  | _ => false
structure Sta where
  K : PySem.W.Frag
  tb : List (Addr × Str)
  cl : Nat → Addr
  fa : Nat → Addr
  ca : Nat → Addr
  cf : Nat → Str
section
variable (S : Sta)
mutual
inductive RepV (ι : Nat → Addr) (nx : Nat) (H : Hp) : D → V → Prop
  | non : RepV ι nx H .non .non
  | bl (b : Bool) : RepV ι nx H (.bl b) (.bl b)
  | int (i : Int) : RepV ι nx H (.int i) (.int i)
  | str (s : Str) : RepV ι nx H (.str s) (.str s)
  | ref {n : Nat} (h : n < nx) : RepV ι nx H (.ref n) (.ref (ι n))
  | fn (k : Nat) : RepV ι nx H (.fn k) (.ref (S.fa k))
  | ty (t : Ty) : RepV ι nx H (.ty t) (.ty t.nm)
  | emp {a : Addr} (h : H a = some (.dK [])) : RepV ι nx H .emp (.ref a)
  | opq (v : V) : RepV ι nx H .opq v
  | cls (k : Nat) : RepV ι nx H (.cls k) (.ref (S.cl k))
  | tup {a : Addr} {vs : List V} {ds : List D} (h : SqT S.K H a vs) (r : RepVs ι nx H ds vs) : RepV ι nx H (.tup ds) (.ref a)
inductive RepVs (ι : Nat → Addr) (nx : Nat) (H : Hp) : List D → List V → Prop
  | nil : RepVs ι nx H [] []
  | cons {d : D} {v : V} {ds : List D} {vs : List V} (h : RepV ι nx H d v) (r : RepVs ι nx H ds vs) : RepVs ι nx H (d :: ds) (v :: vs)
end
def KL (K : PySem.W.Frag) (a : Addr) (xs : List V) : Prop :=
  ∃ (o : Obj) (its : Array Value) (n : Nat), K.lookup a = some o ∧ o.cls = .type "list" ∧ o.dict = none ∧ o.data = .seq its n ∧ its.size ≤ sizeLine ∧ Vals xs its.toList
def RepFs (ι : Nat → Addr) (nx : Nat) (H : Hp) (fs : List (Option D)) (vs : List (Option V)) : Prop := ∀ (i : Nat) (d : D), getR fs i = some d → ∃ v, vs[i]? = some (some v) ∧ RepV S ι nx H d v
def RepO (ι : Nat → Addr) (nx : Nat) (H : Hp) (a : Addr) : O → Prop
  | .lst ds => ∃ vs, H a = some (.lst vs) ∧ RepVs S ι nx H ds vs
  | .rol ds => ∃ vs, Rd H a (.lst vs) ∧ RepVs S ι nx H ds vs
  | .kol ds => ∃ vs, KL S.K a vs ∧ RepVs S ι nx H ds vs
  | .scr ns => KL S.K a (ns.map V.int) ∨ ∃ o, H a = some (.frz o (.lst (ns.map V.int)))
  | .ins k fs => ∃ (dx : Addr) (vs : List (Option V)), SlX.Slt H a (S.cl k) dx vs ∧ RepFs S ι nx H fs vs
def O.inH : O → Bool
  | .kol _ => false
  | .scr _ => false
  | _ => true
def O.isW : O → Bool
  | .lst _ => true
  | .ins _ _ => true
  | _ => false
theorem isW_inH {o : O} (h : o.isW = true) : o.inH = true := by cases o <;> first | rfl | cases h
structure RepM (ι : Nat → Addr) (H : Hp) (m : Mem) : Prop where
  lt : ∀ n o, m.get n = some o → n < m.nx
  ob : ∀ n o, m.get n = some o → RepO S ι m.nx H (ι n) o
  inj : ∀ n n' o o', m.get n = some o → m.get n' = some o' → o.inH = true → o'.inH = true → ι n = ι n' → n = n'
  tabs : LamX.Tabs S.tb H
def Mem.rw (m : Mem) (n : Nat) : Prop := ∃ o, m.get n = some o ∧ o.isW = true
/-- what nothing writes into -/
def isFx : HO → Bool
  | .lst _ => false
  | .ins _ _ _ => false
  | .ext _ => false
  | .tbl _ => false
  | .own _ => false
  | _ => true
structure Step (ι : Nat → Addr) (m : Mem) (H : Hp) (ι' : Nat → Addr) (m' : Mem) (H' : Hp) : Prop where
  nx : m.nx ≤ m'.nx
  ext : ∀ n, n < m.nx → ι' n = ι n
  new : ∀ n o, m.nx ≤ n → m'.get n = some o → o.inH = true → ∀ u, H (ι' n) = some u → isT u = true
  sub : ∀ n o, n < m.nx → m'.get n = some o → o.inH = true → ∃ o', m.get n = some o' ∧ o'.inH = true
  subw : ∀ n, n < m.nx → m'.rw n → m.rw n
  keep : ∀ b o, H b = some o → isT o = false → (∀ n, m.rw n → ι n ≠ b) → H' b = some o
  there : ∀ b o, H b = some o → isT o = false → ∃ o', H' b = some o' ∧ isT o' = false
  mem : RepM S ι' H' m'
variable {S} {ι ι' ι1 ι2 : Nat → Addr} {nx nx' : Nat} {H H' H1 H2 : Hp} {m m' m1 m2 : Mem}
theorem sqT_up {K : PySem.W.Frag} {a : Addr} {vs : List V} (h : SqT K H a vs) (k : ∀ u, H a = some u → isFx u = true → H' a = some u) : SqT K H' a vs := by
  rcases h with (h | ⟨o, h⟩) | h
  · exact .inl (.inl (k _ h rfl))
  · exact .inl (.inr ⟨o, k _ h rfl⟩)
  · exact .inr h
mutual
theorem RepV.up (hT : ∀ a u, H a = some u → isFx u = true → H' a = some u) (hι : ∀ n, n < nx → ι' n = ι n) (hn : nx ≤ nx') : ∀ {d v}, RepV S ι nx H d v → RepV S ι' nx' H' d v
  | _, _, .non => .non
  | _, _, .bl b => .bl b
  | _, _, .int b => .int b
  | _, _, .str b => .str b
  | _, _, .ref h => by rw [← hι _ h]; exact .ref (Nat.lt_of_lt_of_le h hn)
  | _, _, .fn k => .fn k
  | _, _, .ty k => .ty k
  | _, _, .emp h => .emp (hT _ _ h rfl)
  | _, _, .opq v => .opq v
  | _, _, .cls k => .cls k
  | _, _, .tup h r => .tup (sqT_up h (hT _)) (RepVs.up hT hι hn r)
theorem RepVs.up (hT : ∀ a u, H a = some u → isFx u = true → H' a = some u) (hι : ∀ n, n < nx → ι' n = ι n) (hn : nx ≤ nx') : ∀ {ds vs}, RepVs S ι nx H ds vs → RepVs S ι' nx' H' ds vs
  | _, _, .nil => .nil
  | _, _, .cons h r => .cons (h.up hT hι hn) (r.up hT hι hn)
end
theorem isFx_T {u : HO} (h : isFx u = true) : isT u = false := by cases u <;> first | rfl | cases h
theorem RepM.notl (M : RepM S ι H m) {a : Addr} {u : HO} (h : H a = some u) (hu : isFx u = true) : ∀ n, m.rw n → ι n ≠ a := fun n ⟨o, e, w⟩ z => by
  have q := M.ob n _ e
  rw [z] at q
  cases o with
  | lst ds =>
    obtain ⟨vs, h1, _⟩ := q
    rw [h] at h1
    cases Option.some.inj h1
    cases hu
  | ins k fs =>
    obtain ⟨dx, vs, h1, _⟩ := q
    rcases h1 with ⟨h1, _⟩ | ⟨h1, _⟩
    · rw [h] at h1
      cases Option.some.inj h1
      cases hu
    · rw [h] at h1
      have h1 := Option.some.inj h1
      rw [h1] at hu
      cases hu
  | _ => cases w
theorem Step.tups (T : Step S ι m H ι' m' H') (M : RepM S ι H m) : ∀ a u, H a = some u → isFx u = true → H' a = some u := fun a u h hu => T.keep a u h (isFx_T hu) (M.notl h hu)
theorem Step.repV (T : Step S ι m H ι' m' H') (M : RepM S ι H m) {d v} (r : RepV S ι m.nx H d v) : RepV S ι' m'.nx H' d v := r.up (T.tups M) T.ext T.nx
theorem Step.repVs (T : Step S ι m H ι' m' H') (M : RepM S ι H m) {d v} (r : RepVs S ι m.nx H d v) : RepVs S ι' m'.nx H' d v := r.up (T.tups M) T.ext T.nx
theorem Step.refl (M : RepM S ι H m) : Step S ι m H ι m H :=
  ⟨Nat.le_refl _, fun _ _ => rfl, fun n o h e _ => absurd (M.lt n o e) (Nat.not_lt.mpr h), fun n o _ e i => ⟨o, e, i⟩, fun _ _ h => h, fun _ _ h _ _ => h, fun _ o h t => ⟨o, h, t⟩, M⟩
theorem Step.trans (A : Step S ι m H ι1 m1 H1) (B : Step S ι1 m1 H1 ι2 m2 H2) : Step S ι m H ι2 m2 H2 where
  nx := Nat.le_trans A.nx B.nx
  ext := fun n h => (B.ext n (Nat.lt_of_lt_of_le h A.nx)).trans (A.ext n h)
  new := fun n o h e i => by
    by_cases h1 : n < m1.nx
    · obtain ⟨o', e', i'⟩ := B.sub n o h1 e i
      rw [B.ext n h1]
      exact A.new n o' h e' i'
    · intro u q
      cases ht : isT u with
      | true => rfl
      | false =>
        obtain ⟨o', q', t'⟩ := A.there _ u q ht
        rw [B.new n o (Nat.le_of_not_lt h1) e i o' q'] at t'
        cases t'
  sub := fun n o h e i => by
    obtain ⟨o', e', i'⟩ := B.sub n o (Nat.lt_of_lt_of_le h A.nx) e i
    exact A.sub n o' h e' i'
  subw := fun n h w => A.subw n h (B.subw n (Nat.lt_of_lt_of_le h A.nx) w)
  keep := fun b o h ht w => B.keep b o (A.keep b o h ht w) ht fun n hw z => by
    obtain ⟨u, e, iw⟩ := hw
    by_cases hn : n < m.nx
    · exact w n (A.subw n hn ⟨u, e, iw⟩) (by rw [← A.ext n hn]; exact z)
    · have q := A.new n _ (Nat.le_of_not_lt hn) e (isW_inH iw) o (by rw [z]; exact h)
      rw [ht] at q
      cases q
  there := fun b o h ht => by
    obtain ⟨o', h', t'⟩ := A.there b o h ht
    exact B.there b o' h' t'
  mem := B.mem

/-! ## slots -/
structure RepS (S : Sta) (ι : Nat → Addr) (nx : Nat) (H : Hp) (ρ : Rho) (σ : L2.St) : Prop where
  len : ρ.length = σ.length
  at_ : ∀ i d, getR ρ i = some d → ∃ v, σ[i]? = some (some v) ∧ RepV S ι nx H d v
theorem getR_set : ∀ {ρ : Rho} {i j : Nat} {d e : D}, getR (ρ.set i (some e)) j = some d → (j = i ∧ i < ρ.length ∧ d = e) ∨ (j ≠ i ∧ getR ρ j = some d)
  | [], i, j, d, e, h => by simp [getR] at h
  | x :: r, 0, 0, d, e, h => by
    have h : some e = some d := h
    exact .inl ⟨rfl, by simp, (Option.some.inj h).symm⟩
  | x :: r, 0, j + 1, d, e, h => .inr ⟨by simp, h⟩
  | x :: r, i + 1, 0, d, e, h => .inr ⟨by simp, h⟩
  | x :: r, i + 1, j + 1, d, e, h => by
    rcases getR_set (ρ := r) (i := i) (j := j) h with ⟨a, b, c⟩ | ⟨a, b⟩
    · exact .inl ⟨by omega, by simp; omega, c⟩
    · exact .inr ⟨by omega, b⟩
theorem RepS.set (r : RepS S ι nx H ρ σ) {d : D} {v : V} (h : RepV S ι nx H d v) (i : Nat) : RepS S ι nx H (ρ.set i (some d)) (σ.set i (some v)) where
  len := by rw [List.length_set, List.length_set]; exact r.len
  at_ := fun j e q => by
    rcases getR_set q with ⟨rfl, hl, rfl⟩ | ⟨hn, q⟩
    · exact ⟨v, List.getElem?_set_self (by rw [← r.len]; exact hl), h⟩
    · obtain ⟨u, a, b⟩ := r.at_ j e q
      exact ⟨u, by rw [List.getElem?_set_ne (Ne.symm hn)]; exact a, b⟩
theorem Step.repS (T : Step S ι m H ι' m' H') (M : RepM S ι H m) {ρ σ} (r : RepS S ι m.nx H ρ σ) : RepS S ι' m'.nx H' ρ σ :=
  ⟨r.len, fun i d h => let ⟨v, a, b⟩ := r.at_ i d h; ⟨v, a, T.repV M b⟩⟩

/-! ## what is wanted of an outcome -/
def RepX (S : Sta) (ι : Nat → Addr) (nx : Nat) (H : Hp) (x : Ex) (cls : Value) (dd : Option Addr) : Prop :=
  cls = .ref (S.ca x.cls) ∧ (match x.arg with
    | [] => True
    | d :: _ => ∃ a fs v, dd = some a ∧ H a = some (.xd fs) ∧ fs.lookup (S.cf x.cls) = some v ∧ RepV S ι nx H d v)
def PostG {α : Type} (S : Sta) (ι : Nat → Addr) (m : Mem) (H : Hp) (E : XK) (o : Out α) (Q : α → (Nat → Addr) → Mem → Hp → Prop) : Prop := match o with
  | .ok a m' => ∀ ι' H', Step S ι m H ι' m' H' → Q a ι' m' H'
  | .exc x m' => ∀ ι' H' cls dd, Step S ι m H ι' m' H' → RepX S ι' m'.nx H' x cls dd → E cls dd H'
  | .bad => False
section
variable {α β : Type} {E : XK} {o : Out α} {Q Q' : α → (Nat → Addr) → Mem → Hp → Prop}
theorem PostG.step (T : Step S ι m H ι1 m1 H1) (p : PostG S ι m H E o Q) : PostG S ι1 m1 H1 E o Q := by
  cases o with
  | ok a m' => exact fun ι' H' z => p ι' H' (T.trans z)
  | exc x m' => exact fun ι' H' cls dd z => p ι' H' cls dd (T.trans z)
  | bad => exact p
theorem PostG.imp (p : PostG S ι m H E o Q) (h : ∀ a ι' m' H', Step S ι m H ι' m' H' → Q a ι' m' H' → Q' a ι' m' H') : PostG S ι m H E o Q' := by
  cases o with
  | ok a m' => exact fun ι' H' z => h _ _ _ _ z (p ι' H' z)
  | exc x m' => exact p
  | bad => exact p
theorem PostG.bind {f : α → MV β} {Q : β → (Nat → Addr) → Mem → Hp → Prop} (p : PostG S ι m H E (o.bind f) Q) : PostG S ι m H E o fun a ι1 m1 H1 => RepM S ι1 H1 m1 ∧ Step S ι m H ι1 m1 H1 ∧ PostG S ι1 m1 H1 E (f a m1) Q := by
  cases o with
  | ok a m' => exact fun ι' H' z => ⟨z.mem, z, PostG.step z p⟩
  | exc x m' => exact p
  | bad => exact p
theorem PostG.ok (M : RepM S ι H m) {a : α} (p : PostG S ι m H E (.ok a m) Q) : Q a ι m H := p ι H (Step.refl M)
end

/-! ## readings by meanings -/
def evE (S : Sta) (W : WX) (f : Rho → MV D) : TE := fun σ H Q => ∃ ι ρ m, RepS S ι m.nx H ρ σ ∧ RepM S ι H m ∧
  PostG S ι m H (fun c d H' => W c d σ H') (f ρ m) fun d ι' m' H' => ∀ v, RepV S ι' m'.nx H' d v → Q v H'
def evB (S : Sta) (W : WX) (f : Rho → MV Bool) : TT := fun σ H Q => ∃ ι ρ m, RepS S ι m.nx H ρ σ ∧ RepM S ι H m ∧
  PostG S ι m H (fun c d H' => W c d σ H') (f ρ m) fun b _ _ H' => Q b H'
def evA (S : Sta) (W : WX) (f : Rho → MV D) : TA := fun σ H Q => ∃ ι ρ m, RepS S ι m.nx H ρ σ ∧ RepM S ι H m ∧
  PostG S ι m H (fun c d H' => W c d σ H') (f ρ m) fun d ι' m' H' => ∃ ds, d = .tup ds ∧ ∀ vs, RepVs S ι' m'.nx H' ds vs → Q vs H'
theorem peI {X : Cx} {e : Expr} {t t' : TE} (h : PE X e t) (k : ∀ σ H Q, t' σ H Q → t σ H Q) : PE X e t' := ⟨fun pins s σ H Q I w => h.run pins s σ H Q I (k σ H Q w)⟩
theorem ptI {X : Cx} {e : Expr} {t t' : TT} (h : PT X e t) (k : ∀ σ H Q, t' σ H Q → t σ H Q) : PT X e t' := ⟨fun pins s σ H Q I w => h.run pins s σ H Q I (k σ H Q w)⟩
theorem paI {X : Cx} {e : List Expr} {t t' : TA} (h : PA X e t) (k : ∀ σ H Q, t' σ H Q → t σ H Q) : PA X e t' := ⟨fun p pins s σ H Q I w => h.run p pins s σ H Q I (k σ H Q w)⟩
/-- the tool: the reading of a part, then the rest -/
theorem evE_then {W : WX} {f : Rho → MV D} {β : Type} {g : D → MV β} {ρ : Rho} {σ : L2.St} {Q : β → (Nat → Addr) → Mem → Hp → Prop} {R : VK} (rs : RepS S ι m.nx H ρ σ) (M : RepM S ι H m)
    (p : PostG S ι m H (fun c d H' => W c d σ H') ((f ρ m).bind g) Q)
    (k : ∀ d v ι1 m1 H1, RepS S ι1 m1.nx H1 ρ σ → RepM S ι1 H1 m1 → Step S ι m H ι1 m1 H1 → RepV S ι1 m1.nx H1 d v → PostG S ι1 m1 H1 (fun c d H' => W c d σ H') (g d m1) Q → R v H1) : evE S W f σ H R :=
  ⟨ι, ρ, m, rs, M, p.bind.imp fun d ι1 m1 H1 z ⟨M1, _, q⟩ v rv => k d v ι1 m1 H1 (z.repS M rs) M1 z rv q⟩
end
end Ev

set_option Elab.async false
set_option linter.all false
set_option maxRecDepth 100000
set_option maxHeartbeats 4000000
namespace Ev
open PySem PySem.Spec PyProof.Rows L2

/-! ## functions that keep a promise, with no repr under way -/
structure FnG (P : Program) (w : World) (K : PySem.W.Frag) (mg : Str → Option Value) (base : Heap) (k : Nat) (f : Addr) (fd : FuncData) (ps : List Str) (sp : Sp) : Prop where
  run : ∀ (A : Around) (outer : List PySem.Env) (s : Shared) (H : Hp) (args : Args) (us : List Value) (vs : List V) (Q : VK) (E : XK),
    Room k A → A.guards = some [] → Env0 P w K mg base A outer s H → BindsTo s fd args (ps.zip us) → Vals vs us → vs.length = ps.length → sp vs H Q E →
    codeAny (model P w) A (.call (.ref f) args) (CR (L2.CX P w) outer P w H s Q E) s
/-- what the evaluator says of a def -/
def spF (S : Sta) (F : Nat → List D → MV D) (k : Nat) : Sp := fun vs H Q E => ∃ ι m ds, RepVs S ι m.nx H ds vs ∧ RepM S ι H m ∧
  PostG S ι m H E (F k ds m) fun d ι' m' H' => ∀ v, RepV S ι' m'.nx H' d v → Q v H'
/-- classes with slots: how made (class, slots, the def of __init__); where their slots stand; their methods, their properties -/
structure Kls where
  c : Str → Option (Nat × Nat × Nat)
  f : Str → List (Nat × Nat)
  m : Str → List (Nat × Nat)
  p : Str → List (Nat × Nat)
  i : Str → List (Nat × Nat)
structure Glo where
  g : Str → Option D
  b : Str → Bool
  x : Str → Option (Nat × Bool)
  xn : Nat
  xf : Nat → Str
  m : Str → Option (List Hd × D)
  k : Kls
  l : Bool
  h : Bool
/-! ### names -/
def ixOf (x : Str) : List Str → Nat → Option Nat
  | [], _ => none
  | y :: r, n => match decide (x = y) with | true => some n | false => ixOf x r (n + 1)
theorem ixOf_ok {x : Str} : ∀ {N : List Str} {n i : Nat}, ixOf x N n = some i → ∃ j, i = n + j ∧ N[j]? = some x
  | [], _, _, h => by cases h
  | y :: r, n, i, h => by
    unfold ixOf at h
    by_cases e : x = y
    · rw [decide_eq_true e] at h
      cases h
      exact ⟨0, rfl, by rw [e] <;> rfl⟩
    · rw [decide_eq_false e] at h
      obtain ⟨j, h1, h2⟩ := ixOf_ok h
      exact ⟨j + 1, by omega, h2⟩
theorem ixOf0 {x : Str} {N : List Str} {i : Nat} (h : ixOf x N 0 = some i) : N[i]? = some x := by
  obtain ⟨j, h1, h2⟩ := ixOf_ok h
  rw [h1, Nat.zero_add]
  exact h2
def nodun (x : Str) : Bool := !(x == ("__debug__" : Str)) && !(x == ("__classdict__" : Str)) && !decide (x = ("__name__" : Str))
def visB (sc : Scope) (x : Str) : Bool := match sc.names.lookup x with
  | some .local => true | some .cell => true | some .free => true
  | _ => false
def glB (sc : Scope) (x : Str) : Bool := match sc.names.lookup x with
  | some .globalImplicit => true
  | _ => false
def constD : Const → Option D
  | .none => some .non | .bool b => some (.bl b) | .int i => some (.int i) | .str s => some (.str s)
  | _ => none
def onB {α : Type} (b : Bool) (o : Option α) : Option α := match b with
  | true => o
  | false => none
theorem onB_some {α : Type} {b : Bool} {o : Option α} {x : α} (h : onB b o = some x) : b = true ∧ o = some x := by
  cases b with
  | true => exact ⟨rfl, h⟩
  | false => cases h
def locB (sc : Scope) (x : Str) : Bool := match sc.names.lookup x with
  | some .local => true
  | _ => false
theorem locB_ok {sc : Scope} {x : Str} (h : locB sc x = true) : sc.names.lookup x = some .local := by
  unfold locB at h
  split at h
  · assumption
  · cases h
def cellB (sc : Scope) (x : Str) : Bool := match sc.names.lookup x with
  | some .cell => true
  | _ => false
theorem cellB_ok {sc : Scope} {x : Str} (h : cellB sc x = true) : sc.names.lookup x = some .cell := by
  unfold cellB at h
  split at h
  · assumption
  · cases h

/-! ### errors, and the def that meets them -/
def trHd (G : Glo) (Ng : List Str) (sg : Scope) : ExceptHandler → Option Hd
  | .ExceptHandler (some (.Name cx _)) none [.Return (some (.Constant (.str z) _ _)) _] _ => onB (glB sg cx && nodun cx) ((G.x cx).bind fun kb => some (.ret kb.1 (.str z)))
  | .ExceptHandler (some (.Name cx _)) (some n) [.Return (some (.BinOp (.Constant (.str z) _ _) .Add (.Call (.Name rp _) [.Attribute (.Name n' _) f _] [] _) _)) _] _ =>
      onB (glB sg cx && nodun cx && decide (rp = "repr") && glB sg "repr" && G.b "repr" && decide (n' = n) && locB sg n && nodun n) ((ixOf n Ng 0).bind fun _ => (G.x cx).bind fun kb => onB (kb.2 && decide (f = G.xf kb.1)) (some (.rep kb.1 z)))
  | _ => none
def trHds (G : Glo) (Ng : List Str) (sg : Scope) : List ExceptHandler → Option (List Hd)
  | [] => some []
  | h :: r => (trHd G Ng sg h).bind fun a => (trHds G Ng sg r).bind fun b => some (a :: b)
def metShape (G : Glo) (Ng : List Str) (sg : Scope) (a : Str) (bg : List Stmt) : Option (List Hd × D) := match bg with
  | [.Try [.Expr (.Call (.Name a' _) [] [] _) _] (h :: hds) [] [] _, .Return (some (.Constant c _ _)) _] => onB (decide (a' = a)) ((trHds G Ng sg (h :: hds)).bind fun hs => (constD c).bind fun d => some (hs, d))
  | _ => none
/-- an own class without an own __init__ -/
def TxtEx (K : PySem.W.Frag) (C : Addr) : Prop := ∃ (B newId initId : String) (bmB : List Value), ExcBaseFacts B newId initId bmB ∧ PySem.W.excIn K C bmB newId = true ∧ PySem.W.keepIn K (.ref C) = true ∧ PySem.W.subIn K (.ref C) (.type "BaseException") = some true ∧ PySem.W.typeIn K (.ref C) = some (.type "type")
structure XOk (P : Program) (K : PySem.W.Frag) (mg : Str → Option Value) (S : Sta) (x : Str) (k : Nat) (b : Bool) : Prop where
  mg : mg x = some (.ref (S.ca k))
  txt : b = false → TxtEx K (S.ca k)
  own : b = true → (∃ B newId initId bmB fI, ExM.OwnEx P K (S.ca k) (S.cf k) B newId initId bmB fI) ∧ XfC K (S.ca k)
/-- a def that meets errors, lambdas made here -/
structure MetOk (S : Sta) (G : Glo) (X : Cx) (x : Str) (hs : List Hd) (d : D) : Prop where
  ex : ∃ (g c P : Addr) (a : Str) (Ng : List Str) (pg : Arguments) (bg : List Stmt) (sg : Scope) (dV kV doc pm cdv ct oc : Value) (an od : Option Addr) (osl : Array (Option Value)),
    X.mg x = some (.ref g) ∧ PySem.W.keepIn X.K (.ref g) = true ∧ X.K.lookup g = some ⟨oc, od, .func (PySem.W.fnOf x x pg bg sg dV kV doc pm an cdv ct), osl⟩ ∧ PySem.W.codeIn X.K cdv x = true ∧ L2.Binds X.K (PySem.W.fnOf x x pg bg sg dV kV doc pm an cdv ct) [a] [] ∧
    FnScope Ng [a] sg ∧ Ng[0]? = some a ∧ visB sg a = true ∧ nodun a = true ∧ metShape G Ng sg a bg = some (hs, d) ∧
    LamX.TabB X.base X.mg c P ∧ X.env.code = .ref c ∧ (P, X.env.qual ++ "<lambda>") ∈ S.tb ∧ (∀ p ∈ S.tb, p.1 = P → p.2 = X.env.qual ++ "<lambda>")
/-- a getter: return self.slot -/
structure GetOk (K : PySem.W.Frag) (C g : Addr) (i : Nat) : Prop where
  ex : ∃ (oc : Value) (od : Option Addr) (dV kV doc pm cdv ct : Value) (an : Option Addr) (osl : Array (Option Value)) (name qual slf slot : Str) (params : Arguments) (scope : Scope) (p1 p2 p3 : Pos) (pp : Addr),
    K.lookup g = some ⟨oc, od, .func (PySem.W.fnOf name qual params [.Return (some (.Attribute (.Name slf p1) slot p2)) p3] scope dV kV doc pm an cdv ct), osl⟩ ∧ PySem.W.codeIn K cdv qual = true ∧
    L2.Binds K (PySem.W.fnOf name qual params [.Return (some (.Attribute (.Name slf p1) slot p2)) p3] scope dV kV doc pm an cdv ct) [slf] [] ∧ FnScope [slf] [slf] scope ∧ nodun slf = true ∧ visB scope slf = true ∧ SlX.Slot1 K C slot pp i
structure KOk (S : Sta) (K : PySem.W.Frag) (mg : Str → Option Value) (C : Kls) : Prop where
  mkc : ∀ x k np j, C.c x = some (k, np, j) → mg x = some (.ref (S.cl k)) ∧ L2.Mk K (S.cl k) (S.fa j)
  fl : ∀ f q, q ∈ C.f f → SlX.SCls K (S.cl q.1) ∧ ∃ p, SlX.Slot1 K (S.cl q.1) f p q.2
  mh : ∀ m q, q ∈ C.m m → SlX.SCls K (S.cl q.1) ∧ L2.Meth K (S.cl q.1) m (S.fa q.2)
  pr : ∀ f q, q ∈ C.p f → SlX.SCls K (S.cl q.1) ∧ ∃ p g, L2.PropOf K (S.cl q.1) f p g ∧ GetOk K (S.cl q.1) g q.2
  isi : ∀ x q0, q0 ∈ C.i x → ∃ k, mg x = some (.ref (S.cl k)) ∧ (∀ u : Ty, PySem.W.kitOne K (.type u.nm) (.ref (S.cl k)) = some false) ∧ ∀ q, q ∈ C.i x → SlX.SCls K (S.cl q.1) ∧ SlX.SIsi K (S.cl q.1) ∧ PySem.W.kitOne K (.ref (S.cl q.1)) (.ref (S.cl k)) = some (Nat.beq q.2 1)
/-- lambdas made here -/
structure LamOk (S : Sta) (X : Cx) : Prop where
  ex : ∃ (c P : Addr), LamX.TabB X.base X.mg c P ∧ X.env.code = .ref c ∧ (P, X.env.qual ++ "<lambda>") ∈ S.tb ∧ (∀ p ∈ S.tb, p.1 = P → p.2 = X.env.qual ++ "<lambda>")
/-- a def that may be called here -/
structure Callee (X : Cx) (S : Sta) (F : Nat → List D → MV D) (n k : Nat) : Prop where
  ex : ∃ fd ps, Binds X.K fd ps [] ∧ (∀ ds m, F k ds m ≠ .bad → ds.length = ps.length) ∧ FnG X.prog X.w X.K X.mg X.base n (S.fa k) fd ps (spF S F k)
structure GC (S : Sta) (G : Glo) (Fs : Fns) (n : Nat) (X : Cx) (W : WX) : Prop where
  n8 : 3 ≤ n
  nd : X.N.Nodup
  calm : X.calm = true
  room : Room n X.A
  guard : X.A.guards = some []
  hK : X.K = S.K
  tk : Takes X W
  gl : ∀ x d, G.g x = some d → ∃ u v, X.mg x = some u ∧ RelV v u ∧ ∀ ι nx H, RepV S ι nx H d v
  bl : ∀ x, G.b x = true → X.mg x = none
  kp : ∀ k, PySem.W.keepIn X.K (.ref (S.fa k)) = true
  fns : ∀ k ds m, Fs.F k ds m ≠ .bad → Callee X S Fs.F n k
  lns : ∀ k ds m, Fs.L k ds m ≠ .bad → Callee X S Fs.L (n - 2) k
  sup : X.mg "super" = none
  xf : ∀ k, S.cf k = G.xf k
  xk : ∀ x k b, G.x x = some (k, b) → k < G.xn ∧ XOk X.prog X.K X.mg S x k b
  xe : ∀ i j, i < G.xn → j < G.xn → PySem.W.exmOne X.K (.ref (S.ca i)) (.ref (S.ca j)) = some (Nat.beq i j)
  mt : ∀ x hs d, G.m x = some (hs, d) → 5 ≤ n ∧ MetOk S G X x hs d
  kl : KOk S X.K X.mg G.k
  lm : G.l = true → LamOk S X
  h5 : G.h = true → 5 ≤ n
section
variable {S : Sta} {G : Glo} {Fs : Fns} {n : Nat} {X : Cx} {W : WX} {pins : List (Addr × Obj)} {σ : L2.St} {H : Hp} {s : Shared} {Q : VK}
theorem run_fnG {f : Addr} {fd : FuncData} {ps : List Str} {sp : Sp} {us : List Value} {vs : List V} (g : GC S G Fs n X W) (FF : FnG X.prog X.w X.K X.mg X.base n f fd ps sp) (hb : Binds X.K fd ps []) (I : Inv X pins σ H s) (r : Vals vs us) (hl : vs.length = ps.length)
    (h : sp vs H Q fun c d H' => W c d σ H') : wpAny (model X.prog X.w) X.A (call (.ref f) us) (EP X pins σ Q) X.xe s := by
  have b := hb s us I.kIn (by rw [List.append_nil, ← r.length]; exact hl)
  rw [List.append_nil] at b
  refine wpAny_call (codeAny_mono (FF.run X.A X.stack s H ⟨us, []⟩ us vs Q _ g.room g.guard I.env0 b r hl h) fun o s' hq => ?_)
  cases o with
  | error e => exact g.tk e s' (XE.of_call I (fun _ _ _ z => z) hq)
  | ok fl => cases fl with
    | ret u => exact I.after hq
    | _ => exact False.elim hq
end

/-! ## lists of parts -/
def plainX : Expr → Bool
  | .Starred .. => false
  | _ => true
theorem star1 {e : Expr} (h : plainX e = true) (es : List Expr) (env : PySem.Env) : starEach (e :: es) env = (false, eval e env) :: starEach es env := by
  cases e <;> first | rfl | (exact absurd h (by decide)) | cases h
theorem star_any : ∀ {es : List Expr} {pos : Pos} {env : PySem.Env}, es.all plainX = true → (backTo pos (starEach es env)).any (·.1) = false
  | [], _, _, _ => rfl
  | e :: es, pos, env, h => by
    rw [List.all_cons, Bool.and_eq_true] at h
    rw [star1 h.1]
    show ((false : Bool) || (backTo pos (starEach es env)).any (·.1)) = false
    rw [star_any h.2] <;> rfl

/-! ## the store under the operations -/
theorem nbf {a b : Nat} (h : a ≠ b) : Nat.beq a b = false := by
  cases e : Nat.beq a b with
  | false => rfl
  | true => exact absurd (Nat.eq_of_beq_eq_true e) h
theorem look_new {m : Mem} {o : O} {n : Nat} : (m.new o).get n = if n = m.nx then some o else m.get n := by
  show (match Nat.beq n m.nx with | true => some o | false => look n m.ob) = _
  by_cases h : n = m.nx
  · rw [if_pos h, h, Nat.beq_refl]
  · rw [if_neg h, nbf h] <;> rfl
theorem look_repl {n k : Nat} {o : O} : ∀ {l : List (Nat × O)}, look k (repl n o l) = if k = n then (look n l).map (fun _ => o) else look k l
  | [] => by unfold repl look; split <;> rfl
  | (j, u) :: r => by
    have ih := look_repl (n := n) (k := k) (o := o) (l := r)
    unfold repl
    by_cases h : n = j
    · rw [h, Nat.beq_refl]
      show (match Nat.beq k j with | true => some o | false => look k r) = _
      by_cases hk : k = j
      · rw [if_pos hk, hk, Nat.beq_refl]
        show some o = (match Nat.beq j j with | true => some u | false => look j r).map _
        rw [Nat.beq_refl] <;> rfl
      · rw [if_neg hk, nbf hk]
        show look k r = (match Nat.beq k j with | true => some u | false => look k r)
        rw [nbf hk]
    · rw [nbf h]
      show (match Nat.beq k j with | true => some u | false => look k (repl n o r)) = _
      by_cases hk : k = j
      · have : ¬ k = n := fun e => h (e.symm.trans hk)
        rw [if_neg this, hk, Nat.beq_refl]
        show some u = (match Nat.beq j j with | true => some u | false => look j r)
        rw [Nat.beq_refl]
      · rw [nbf hk]
        show look k (repl n o r) = _
        rw [ih]
        by_cases hn : k = n
        · rw [if_pos hn, if_pos hn]
          show _ = (match Nat.beq n j with | true => some u | false => look n r).map _
          rw [nbf h]
        · rw [if_neg hn, if_neg hn]
          show _ = (match Nat.beq k j with | true => some u | false => look k r)
          rw [nbf hk]
theorem get_put {m : Mem} {n k : Nat} {o : O} : (m.put n o).get k = if k = n then (m.get n).map (fun _ => o) else m.get k := look_repl
theorem get_put_same {m : Mem} {n : Nat} {o u : O} (h : m.get n = some u) : (m.put n o).get n = some o := by rw [get_put, if_pos rfl, h] <;> rfl
theorem get_put_ne {m : Mem} {n k : Nat} {o : O} (h : k ≠ n) : (m.put n o).get k = m.get k := by rw [get_put, if_neg h]
section
variable {S : Sta} {ι : Nat → Addr} {m : Mem} {H : Hp}
theorem RepO.hin {nx : Nat} {a : Addr} {o : O} (r : RepO S ι nx H a o) (i : o.inH = true) : H a ≠ none := by
  cases o with
  | lst ds => obtain ⟨vs, h, _⟩ := r; rw [h]; simp
  | rol ds =>
    obtain ⟨vs, h, _⟩ := r
    rcases h with h | ⟨_, h⟩ <;> (rw [h]; simp)
  | kol ds => cases i
  | scr ns => cases i
  | ins k fs =>
    obtain ⟨dx, vs, h, _⟩ := r
    rcases h with ⟨h, _⟩ | ⟨h, _⟩ <;> (rw [h]; simp)
theorem slt_up {H' : Hp} {a C dx : Addr} {vs : List (Option V)} (h : SlX.Slt H a C dx vs) (k : H' a = H a) (hT : ∀ a u, H a = some u → isFx u = true → H' a = some u) : SlX.Slt H' a C dx vs := by
  rcases h with ⟨h, e⟩ | ⟨h, e⟩
  · exact .inl ⟨k.trans h, e⟩
  · exact .inr ⟨k.trans h, hT _ _ e rfl⟩
theorem RepFs.up {ι' : Nat → Addr} {nx nx' : Nat} {H' : Hp} {fs : List (Option D)} {vs : List (Option V)} (h : RepFs S ι nx H fs vs) (hT : ∀ a u, H a = some u → isFx u = true → H' a = some u) (hι : ∀ n, n < nx → ι' n = ι n) (hn : nx ≤ nx') : RepFs S ι' nx' H' fs vs := fun i d e => by
  obtain ⟨v, e1, e2⟩ := h i d e
  exact ⟨v, e1, e2.up hT hι hn⟩
theorem RepO.up {ι' : Nat → Addr} {nx nx' : Nat} {H' : Hp} {a : Addr} {o : O} (r : RepO S ι nx H a o) (hT : ∀ a u, H a = some u → isFx u = true → H' a = some u) (hι : ∀ n, n < nx → ι' n = ι n) (hn : nx ≤ nx') (ha : o.inH = true → H' a = H a) : RepO S ι' nx' H' a o := by
  cases o with
  | lst ds => obtain ⟨vs, h, q⟩ := r; exact ⟨vs, (ha rfl).trans h, q.up hT hι hn⟩
  | rol ds =>
    obtain ⟨vs, h, q⟩ := r
    refine ⟨vs, ?_, q.up hT hι hn⟩
    rcases h with h | ⟨o, h⟩
    · exact .inl ((ha rfl).trans h)
    · exact .inr ⟨o, (ha rfl).trans h⟩
  | kol ds => obtain ⟨vs, h, q⟩ := r; exact ⟨vs, h, q.up hT hι hn⟩
  | scr ns =>
    rcases r with r | ⟨o, r⟩
    · exact .inl r
    · exact .inr ⟨o, hT _ _ r rfl⟩
  | ins k fs =>
    obtain ⟨dx, vs, h, q⟩ := r
    exact ⟨dx, vs, slt_up h (ha rfl) hT, q.up hT hι hn⟩
/-- a code object's table; a code object -/
def isTab (b : Addr) (o : HO) : Prop := (∃ ps, o = .tbl ps) ∨ ∃ q, o = LamX.CodeO b q
theorem tabs_up {T : List (Addr × Str)} {H H' : Hp} (t : LamX.Tabs T H) (e : ∀ b o, H b = some o → isTab b o → H' b = some o) : LamX.Tabs T H' := fun p hp => by
  obtain ⟨ps, h1, h2, h3⟩ := t p hp
  refine ⟨ps, e _ _ h1 (.inl ⟨_, rfl⟩), h2, fun pos cv hc => ?_⟩
  obtain ⟨c, e1, e2⟩ := h3 pos cv hc
  exact ⟨c, e1, e _ _ e2 (.inr ⟨_, rfl⟩)⟩
theorem isTab_lst {b : Addr} {o : HO} (h : isTab b o) : ∀ xs, o ≠ .lst xs := fun xs z => by
  rcases h with ⟨ps, h⟩ | ⟨q, h⟩
  · rw [h] at z; cases z
  · rw [h] at z; unfold LamX.CodeO at z; cases z
/-- a new object that is not of the store -/
theorem Step.laid (M : RepM S ι H m) {p : Addr} {u : HO} (hp : H p = none) : Step S ι m H ι m (upd H p u) where
  nx := Nat.le_refl _
  ext := fun _ _ => rfl
  new := fun n o h e _ => absurd (M.lt n o e) (Nat.not_lt.mpr h)
  sub := fun n o _ e i => ⟨o, e, i⟩
  subw := fun _ _ h => h
  keep := fun b o h _ _ => by rw [upd_ne (ne_of_none h hp)]; exact h
  there := fun b o h t => ⟨o, by rw [upd_ne (ne_of_none h hp)]; exact h, t⟩
  mem := ⟨M.lt, fun n o e => (M.ob n o e).up (fun a u h _ => by rw [upd_ne (ne_of_none h hp)]; exact h) (fun _ _ => rfl) (Nat.le_refl _) (fun i => upd_ne fun z => (M.ob n o e).hin i (by rw [z]; exact hp)), M.inj, tabs_up M.tabs fun b o h _ => by rw [upd_ne (ne_of_none h hp)]; exact h⟩
theorem new_tup (M : RepM S ι H m) {p : Addr} {ds : List D} {vs : List V} (hp : H p = none) (r : RepVs S ι m.nx H ds vs) : RepV S ι m.nx (upd H p (.tup vs)) (.tup ds) (.ref p) :=
  .tup (.of upd_same) ((Step.laid M hp).repVs M r)
def bump (ι : Nat → Addr) (n : Nat) (p : Addr) : Nat → Addr := fun k => if k = n then p else ι k
theorem bump_same {ι : Nat → Addr} {n : Nat} {p : Addr} : bump ι n p n = p := if_pos rfl
theorem bump_ne {ι : Nat → Addr} {n k : Nat} {p : Addr} (h : k ≠ n) : bump ι n p k = ι k := if_neg h
/-- a new list -/
theorem Step.new_lst (M : RepM S ι H m) {p : Addr} {ds : List D} {vs : List V} (hp : H p = none) (r : RepVs S ι m.nx H ds vs) : Step S ι m H (bump ι m.nx p) (m.new (.lst ds)) (upd H p (.lst vs)) := by
  have old : ∀ n o, n ≠ m.nx → (m.new (.lst ds)).get n = some o → m.get n = some o := fun n o hn e => by rw [look_new, if_neg hn] at e; exact e
  have hT : ∀ a u, H a = some u → isFx u = true → upd H p (.lst vs) a = some u := fun a u h _ => by rw [upd_ne (ne_of_none h hp)]; exact h
  have hι : ∀ n, n < m.nx → bump ι m.nx p n = ι n := fun n h => bump_ne (Nat.ne_of_lt h)
  have nin : ∀ n o, n ≠ m.nx → m.get n = some o → o.inH = true → ι n ≠ p := fun n o _ e i z => (M.ob n o e).hin i (by rw [z]; exact hp)
  refine ⟨Nat.le_succ _, hι, fun n o h e i => ?_, fun n o h e i => ⟨o, old n o (Nat.ne_of_lt h) e, i⟩, fun n h ⟨es, e, w⟩ => ⟨es, old n _ (Nat.ne_of_lt h) e, w⟩, fun b o h _ _ => by rw [upd_ne (ne_of_none h hp)]; exact h, fun b o h t => ⟨o, by rw [upd_ne (ne_of_none h hp)]; exact h, t⟩, fun n o e => ?_, fun n o e => ?_, fun n n' o o' e e' i i' z => ?_, tabs_up M.tabs fun b o h _ => by rw [upd_ne (ne_of_none h hp)]; exact h⟩
  · by_cases hn : n = m.nx
    · rw [hn, bump_same]
      intro u q
      rw [hp] at q
      cases q
    · exact absurd (M.lt n o (old n o hn e)) (Nat.not_lt.mpr h)
  · by_cases hn : n = m.nx
    · rw [hn]; exact Nat.lt_succ_self _
    · exact Nat.lt_succ_of_lt (M.lt n o (old n o hn e))
  · by_cases hn : n = m.nx
    · rw [look_new, if_pos hn] at e
      cases e
      rw [hn, bump_same]
      exact ⟨vs, upd_same, r.up hT hι (Nat.le_succ _)⟩
    · have e1 := old n o hn e
      rw [bump_ne hn]
      exact (M.ob n o e1).up hT hι (Nat.le_succ _) (fun i => upd_ne (nin n o hn e1 i))
  · by_cases hn : n = m.nx <;> by_cases hn' : n' = m.nx
    · rw [hn, hn']
    · rw [hn, bump_same, bump_ne hn'] at z
      exact absurd z.symm (nin n' o' hn' (old n' o' hn' e') i')
    · rw [hn', bump_same, bump_ne hn] at z
      exact absurd z (nin n o hn (old n o hn e) i)
    · rw [bump_ne hn, bump_ne hn'] at z
      exact M.inj n n' o o' (old n o hn e) (old n' o' hn' e') i i' z
theorem getR_rep : ∀ {np : Nat} (i : Nat) (d : D), getR (List.replicate np none) i ≠ some d
  | 0, i, d => fun h => by cases h
  | np + 1, 0, d => fun h => by cases h
  | np + 1, i + 1, d => getR_rep (np := np) i d
/-- a new instance -/
theorem Step.new_ins (M : RepM S ι H m) {p dx : Addr} {k np : Nat} (hp : H p = none) (hd : H dx = none) (hne : dx ≠ p) : Step S ι m H (bump ι m.nx p) (m.new (.ins k (List.replicate np none))) (upd (upd H dx (.own p)) p (.ins (S.cl k) dx [])) := by
  have up : ∀ a u, H a = some u → upd (upd H dx (.own p)) p (.ins (S.cl k) dx []) a = some u := fun a u h => by rw [upd_ne (ne_of_none h hp), upd_ne (ne_of_none h hd)]; exact h
  have old : ∀ n o, n ≠ m.nx → (m.new (.ins k (List.replicate np none))).get n = some o → m.get n = some o := fun n o hn e => by rw [look_new, if_neg hn] at e; exact e
  have hι : ∀ n, n < m.nx → bump ι m.nx p n = ι n := fun n h => bump_ne (Nat.ne_of_lt h)
  have nin : ∀ n o, n ≠ m.nx → m.get n = some o → o.inH = true → ι n ≠ p := fun n o _ e i z => (M.ob n o e).hin i (by rw [z]; exact hp)
  have nid : ∀ n o, n ≠ m.nx → m.get n = some o → o.inH = true → ι n ≠ dx := fun n o _ e i z => (M.ob n o e).hin i (by rw [z]; exact hd)
  refine ⟨Nat.le_succ _, hι, fun n o h e i => ?_, fun n o h e i => ⟨o, old n o (Nat.ne_of_lt h) e, i⟩, fun n h ⟨es, e, w⟩ => ⟨es, old n _ (Nat.ne_of_lt h) e, w⟩, fun b o h _ _ => up b o h, fun b o h t => ⟨o, up b o h, t⟩, fun n o e => ?_, fun n o e => ?_, fun n n' o o' e e' i i' z => ?_, tabs_up M.tabs fun b o h _ => up b o h⟩
  · by_cases hn : n = m.nx
    · rw [hn, bump_same]
      intro u q
      rw [hp] at q
      cases q
    · exact absurd (M.lt n o (old n o hn e)) (Nat.not_lt.mpr h)
  · by_cases hn : n = m.nx
    · rw [hn]; exact Nat.lt_succ_self _
    · exact Nat.lt_succ_of_lt (M.lt n o (old n o hn e))
  · by_cases hn : n = m.nx
    · rw [look_new, if_pos hn] at e
      cases e
      rw [hn, bump_same]
      exact ⟨dx, [], .inl ⟨upd_same, rfl⟩, fun i d e => absurd e (getR_rep i d)⟩
    · have e1 := old n o hn e
      rw [bump_ne hn]
      exact (M.ob n o e1).up (fun a u h _ => up a u h) hι (Nat.le_succ _) (fun i => by rw [upd_ne (nin n o hn e1 i), upd_ne (nid n o hn e1 i)])
  · by_cases hn : n = m.nx <;> by_cases hn' : n' = m.nx
    · rw [hn, hn']
    · rw [hn, bump_same, bump_ne hn'] at z
      exact absurd z.symm (nin n' o' hn' (old n' o' hn' e') i')
    · rw [hn', bump_same, bump_ne hn] at z
      exact absurd z (nin n o hn (old n o hn e) i)
    · rw [bump_ne hn, bump_ne hn'] at z
      exact M.inj n n' o o' (old n o hn e) (old n' o' hn' e') i i' z
theorem RepO.not_dict {nx : Nat} {a : Addr} {o : O} (r : RepO S ι nx H a o) (i : o.inH = true) {u : HO} (hu : H a = some u) (h : (∃ x, u = .own x) ∨ u = .xd []) : False := by
  have key : ∀ w, H a = some w → (∀ x, w ≠ .own x) → w ≠ .xd [] → False := fun w hw h1 h2 => by
    rw [hu] at hw
    have e := Option.some.inj hw
    rcases h with ⟨x, h⟩ | h
    · exact h1 x (e.symm.trans h)
    · exact h2 (e.symm.trans h)
  cases o with
  | lst ds => obtain ⟨vs, h, _⟩ := r; exact key _ h (fun _ z => by cases z) (fun z => by cases z)
  | rol ds =>
    obtain ⟨vs, h, _⟩ := r
    rcases h with h | ⟨_, h⟩ <;> exact key _ h (fun _ z => by cases z) (fun z => by cases z)
  | kol ds => cases i
  | scr ns => cases i
  | ins k fs =>
    obtain ⟨dx, vs, h, _⟩ := r
    rcases h with ⟨h, _⟩ | ⟨h, _⟩
    · exact key _ h (fun _ z => by cases z) (fun z => by cases z)
    · exact key _ h (fun _ z => by unfold SlX.SlO at z; cases z) SlX.slO_not
/-- a slot is written -/
theorem Step.put_ins (M : RepM S ι H m) {n k i : Nat} {fs : List (Option D)} {dx : Addr} {vs : List (Option V)} {d : D} {v : V} (h0 : m.get n = some (.ins k fs)) (hs : SlX.Slt H (ι n) (S.cl k) dx vs) (hr : RepFs S ι m.nx H fs vs) (hd : dx ≠ ι n) (ho : ∃ u, H dx = some u ∧ ((∃ x, u = .own x) ∨ u = .xd []))
    (hc : ∀ q, H (ι n) ≠ some (LamX.CodeO (ι n) q)) (r : RepV S ι m.nx H d v) : Step S ι m H ι (m.put n (.ins k (fs.set i (some d)))) (SlX.slH H (ι n) (S.cl k) dx (SlX.putS i v vs)) := by
  obtain ⟨ud, hud, hu⟩ := ho
  have hna : ∀ b, b ≠ ι n → b ≠ dx → SlX.slH H (ι n) (S.cl k) dx (SlX.putS i v vs) b = H b := fun b h1 h2 => SlX.slH_ne h1 h2
  have hdx : SlX.slH H (ι n) (S.cl k) dx (SlX.putS i v vs) dx = some (.xd []) := by
    unfold SlX.slH
    rw [upd_ne hd, upd_same]
  have ha : ∃ w, H (ι n) = some w ∧ isFx w = false ∧ (∀ ps, w ≠ .tbl ps) := by
    rcases hs with ⟨h, _⟩ | ⟨h, _⟩
    · exact ⟨_, h, rfl, fun ps z => by cases z⟩
    · exact ⟨_, h, rfl, fun ps z => by unfold SlX.SlO at z; cases z⟩
  obtain ⟨wa, hwa, hfa, hta⟩ := ha
  have hT : ∀ a u, H a = some u → isFx u = true → SlX.slH H (ι n) (S.cl k) dx (SlX.putS i v vs) a = some u := fun a u h hf => by
    by_cases h1 : a = ι n
    · rw [h1, hwa] at h
      rw [← Option.some.inj h, hfa] at hf
      cases hf
    · by_cases h2 : a = dx
      · rw [h2, hud] at h
        have e := Option.some.inj h
        rcases hu with ⟨x, hu⟩ | hu
        · rw [← e, hu] at hf; cases hf
        · rw [h2, hdx, ← e, hu]
      · rw [hna a h1 h2]; exact h
  have old : ∀ j o, j ≠ n → (m.put n (.ins k (fs.set i (some d)))).get j = some o → m.get j = some o := fun j o hj e => by rw [get_put_ne hj] at e; exact e
  have back : ∀ j o, (m.put n (.ins k (fs.set i (some d)))).get j = some o → o.inH = true → ∃ o', m.get j = some o' ∧ o'.inH = true := fun j o e i => by
    by_cases hj : j = n
    · rw [hj]; exact ⟨_, h0, rfl⟩
    · exact ⟨o, old j o hj e, i⟩
  refine ⟨Nat.le_refl _, fun _ _ => rfl, fun j o h e i => ?_, fun j o h e i => back j o e i, fun j h ⟨es, e, w⟩ => ?_, fun b o h t w => ?_, fun b o h t => ?_, fun j o e => ?_, fun j o e => ?_, fun j j' o o' e e' i i' z => ?_, tabs_up M.tabs fun b o h t => ?_⟩
  · obtain ⟨u, a1, _⟩ := back j o e i
    exact absurd (M.lt j u a1) (Nat.not_lt.mpr h)
  · by_cases hj : j = n
    · rw [hj]; exact ⟨_, h0, rfl⟩
    · exact ⟨es, old j _ hj e, w⟩
  · have h1 : b ≠ ι n := fun z => w n ⟨_, h0, rfl⟩ z.symm
    by_cases h2 : b = dx
    · rw [h2, hud] at h
      have e := Option.some.inj h
      rcases hu with ⟨x, hu⟩ | hu
      · rw [← e, hu] at t; cases t
      · rw [h2, hdx, ← e, hu]
    · rw [hna b h1 h2]; exact h
  · by_cases h1 : b = ι n
    · rw [h1]
      unfold SlX.slH
      rw [upd_same]
      exact ⟨_, rfl, rfl⟩
    · by_cases h2 : b = dx
      · rw [h2, hdx]; exact ⟨_, rfl, rfl⟩
      · rw [hna b h1 h2]; exact ⟨o, h, t⟩
  · by_cases hj : j = n
    · rw [hj]; exact M.lt n _ h0
    · exact M.lt j o (old j o hj e)
  · by_cases hj : j = n
    · rw [hj, get_put_same h0] at e
      cases e
      rw [hj]
      refine ⟨dx, SlX.putS i v vs, SlX.slH_slt hd, fun l e hl => ?_⟩
      rcases getR_set hl with ⟨rfl, _, rfl⟩ | ⟨hne, hl⟩
      · exact ⟨v, SlX.putS_get _ _ _, r.up hT (fun _ _ => rfl) (Nat.le_refl _)⟩
      · obtain ⟨x, x1, x2⟩ := hr l e hl
        exact ⟨x, (SlX.putS_ne hne).mpr x1, x2.up hT (fun _ _ => rfl) (Nat.le_refl _)⟩
    · have e1 := old j o hj e
      refine (M.ob j o e1).up hT (fun _ _ => rfl) (Nat.le_refl _) (fun i => hna _ (fun z => hj (M.inj j n _ _ e1 h0 i rfl z)) fun z => ?_)
      exact (M.ob j o e1).not_dict i (by rw [z]; exact hud) hu
  · obtain ⟨u, a1, a2⟩ := back j o e i
    obtain ⟨u', b1, b2⟩ := back j' o' e' i'
    exact M.inj j j' u u' a1 b1 a2 b2 z
  · by_cases h1 : b = ι n
    · rw [h1] at h t
      rcases t with ⟨ps, t⟩ | ⟨q, t⟩
      · rw [hwa] at h
        exact absurd ((Option.some.inj h).trans t) (hta ps)
      · rw [t] at h
        exact absurd h (hc q)
    · by_cases h2 : b = dx
      · rw [h2, hud] at h
        have e := Option.some.inj h
        rcases t with ⟨ps, t⟩ | ⟨q, t⟩
        · rcases hu with ⟨x, hu⟩ | hu <;> (rw [← e, hu] at t; cases t)
        · rcases hu with ⟨x, hu⟩ | hu <;> (rw [← e, hu] at t; unfold LamX.CodeO at t; cases t)
      · rw [hna b h1 h2]; exact h
/-- a list is changed -/
theorem Step.put_lst (M : RepM S ι H m) {n : Nat} {ds0 ds : List D} {vs : List V} (h0 : m.get n = some (.lst ds0)) (r : RepVs S ι m.nx H ds vs) : Step S ι m H ι (m.put n (.lst ds)) (upd H (ι n) (.lst vs)) := by
  obtain ⟨vs0, hn, _⟩ := M.ob n _ h0
  have hT0 : ∀ a u, H a = some u → (∀ xs, u ≠ .lst xs) → upd H (ι n) (.lst vs) a = some u := fun a u h hu => by
    rw [upd_ne (fun z => ?_)]
    · exact h
    · rw [z, hn] at h
      exact hu vs0 (Option.some.inj h).symm
  have hT : ∀ a u, H a = some u → isFx u = true → upd H (ι n) (.lst vs) a = some u := fun a u h hu => hT0 a u h fun xs z => by rw [z] at hu; cases hu
  have old : ∀ k o, k ≠ n → (m.put n (.lst ds)).get k = some o → m.get k = some o := fun k o hk e => by rw [get_put_ne hk] at e; exact e
  refine ⟨Nat.le_refl _, fun _ _ => rfl, fun k o h e i => ?_, fun k o h e i => ?_, fun k h ⟨es, e, w⟩ => ?_, fun b o h _ w => ?_, fun b o h t => ?_, fun k o e => ?_, fun k o e => ?_, fun k k' o o' e e' i i' z => ?_, tabs_up M.tabs fun b o h t => hT0 b o h (isTab_lst t)⟩
  · by_cases hk : k = n
    · rw [hk] at h; exact absurd (M.lt n _ h0) (Nat.not_lt.mpr h)
    · exact absurd (M.lt k o (old k o hk e)) (Nat.not_lt.mpr h)
  · by_cases hk : k = n
    · rw [hk]; exact ⟨_, h0, rfl⟩
    · exact ⟨o, old k o hk e, i⟩
  · by_cases hk : k = n
    · rw [hk]; exact ⟨_, h0, rfl⟩
    · exact ⟨es, old k _ hk e, w⟩
  · rw [upd_ne (Ne.symm (w n ⟨_, h0, rfl⟩))]; exact h
  · by_cases hb : b = ι n
    · rw [hb, upd_same]; exact ⟨_, rfl, rfl⟩
    · rw [upd_ne hb]; exact ⟨o, h, t⟩
  · by_cases hk : k = n
    · rw [hk]; exact M.lt n _ h0
    · exact M.lt k o (old k o hk e)
  · by_cases hk : k = n
    · rw [hk, get_put_same h0] at e
      cases e
      rw [hk]
      exact ⟨vs, upd_same, r.up hT (fun _ _ => rfl) (Nat.le_refl _)⟩
    · have e1 := old k o hk e
      exact (M.ob k o e1).up hT (fun _ _ => rfl) (Nat.le_refl _) (fun i => upd_ne fun z => hk (M.inj k n _ _ e1 h0 i rfl z))
  · have back : ∀ k o, (m.put n (.lst ds)).get k = some o → o.inH = true → ∃ o', m.get k = some o' ∧ o'.inH = true := fun k o e i => by
      by_cases hk : k = n
      · rw [hk]; exact ⟨_, h0, rfl⟩
      · exact ⟨o, old k o hk e, i⟩
    obtain ⟨u, a1, a2⟩ := back k o e i
    obtain ⟨u', b1, b2⟩ := back k' o' e' i'
    exact M.inj k k' u u' a1 b1 a2 b2 z
/-- a list is held, and let go -/
theorem Step.hold (M : RepM S ι H m) {n : Nat} {ds : List D} (h0 : m.get n = some (.lst ds)) : Step S ι m H ι (m.put n (.rol ds)) H := by
  have old : ∀ k o, k ≠ n → (m.put n (.rol ds)).get k = some o → m.get k = some o := fun k o hk e => by rw [get_put_ne hk] at e; exact e
  have back : ∀ k o, (m.put n (.rol ds)).get k = some o → o.inH = true → ∃ o', m.get k = some o' ∧ o'.inH = true := fun k o e i => by
    by_cases hk : k = n
    · rw [hk]; exact ⟨_, h0, rfl⟩
    · exact ⟨o, old k o hk e, i⟩
  refine ⟨Nat.le_refl _, fun _ _ => rfl, fun k o h e i => ?_, fun k o h e i => back k o e i, fun k h ⟨es, e, w⟩ => ?_, fun b o h _ _ => h, fun b o h t => ⟨o, h, t⟩, fun k o e => ?_, fun k o e => ?_, fun k k' o o' e e' i i' z => ?_, M.tabs⟩
  · obtain ⟨u, a1, _⟩ := back k o e i
    exact absurd (M.lt k u a1) (Nat.not_lt.mpr h)
  · by_cases hk : k = n
    · rw [hk]; exact ⟨_, h0, rfl⟩
    · exact ⟨es, old k _ hk e, w⟩
  · by_cases hk : k = n
    · rw [hk]; exact M.lt n _ h0
    · exact M.lt k o (old k o hk e)
  · by_cases hk : k = n
    · rw [hk, get_put_same h0] at e
      cases e
      obtain ⟨vs, a, b⟩ := M.ob n _ h0
      rw [hk]
      exact ⟨vs, .inl a, b⟩
    · exact M.ob k o (old k o hk e)
  · obtain ⟨u, a1, a2⟩ := back k o e i
    obtain ⟨u', b1, b2⟩ := back k' o' e' i'
    exact M.inj k k' u u' a1 b1 a2 b2 z
/-- what is held stands, whatever is done -/
theorem Step.held (M : RepM S ι H m) {n : Nat} {ds : List D} {ι' : Nat → Addr} {m' : Mem} {H' : Hp} (h0 : m.get n = some (.lst ds)) (T : Step S ι (m.put n (.rol ds)) H ι' m' H') : ∃ vs, H (ι n) = some (.lst vs) ∧ H' (ι n) = some (.lst vs) ∧ RepVs S ι' m'.nx H' ds vs := by
  obtain ⟨vs, a, b⟩ := M.ob n _ h0
  have M1 := (Step.hold M h0).mem
  refine ⟨vs, a, T.keep _ _ a rfl fun k ⟨es, e, w⟩ z => ?_, T.repVs M1 b⟩
  have hk : k ≠ n := fun q => by rw [q, get_put_same h0] at e; cases e; cases w
  rw [get_put_ne hk] at e
  exact hk (M.inj k n _ _ e h0 (isW_inH w) rfl z)
theorem Step.let_go (M : RepM S ι H m) {n : Nat} {ds : List D} {ι' : Nat → Addr} {m' : Mem} {H' : Hp} (h0 : m.get n = some (.lst ds)) (T : Step S ι (m.put n (.rol ds)) H ι' m' H') : Step S ι m H ι' (m'.put n (.lst ds)) H' := by
  obtain ⟨vs, a, b, c⟩ := Step.held M h0 T
  have hn : n < m.nx := M.lt n _ h0
  have hι : ι' n = ι n := T.ext n hn
  have T0 := (Step.hold M h0).trans T
  have old : ∀ k o, k ≠ n → (m'.put n (.lst ds)).get k = some o → m'.get k = some o := fun k o hk e => by rw [get_put_ne hk] at e; exact e
  have atn : ∀ o, (m'.put n (.lst ds)).get n = some o → (∃ u, m'.get n = some u) ∧ o = .lst ds := fun o e => by
    rw [get_put, if_pos rfl] at e
    cases q : m'.get n with
    | none => rw [q] at e; cases e
    | some u => rw [q] at e; cases e; exact ⟨⟨u, rfl⟩, rfl⟩
  have M' := T.mem
  refine ⟨T.nx, T0.ext, fun k o h e i => ?_, fun k o h e i => ?_, fun k h ⟨es, e, w⟩ => ?_, T0.keep, T0.there, fun k o e => ?_, fun k o e => ?_, fun k k' o o' e e' i i' z => ?_, M'.tabs⟩
  · by_cases hk : k = n
    · rw [hk] at h; exact absurd hn (Nat.not_lt.mpr h)
    · exact T0.new k o h (old k o hk e) i
  · by_cases hk : k = n
    · rw [hk]; exact ⟨_, h0, rfl⟩
    · exact T0.sub k o h (old k o hk e) i
  · by_cases hk : k = n
    · rw [hk]; exact ⟨_, h0, rfl⟩
    · exact T0.subw k h ⟨es, old k _ hk e, w⟩
  · by_cases hk : k = n
    · rw [hk]; exact Nat.lt_of_lt_of_le hn T.nx
    · exact M'.lt k o (old k o hk e)
  · by_cases hk : k = n
    · rw [hk] at e
      obtain ⟨_, e2⟩ := atn o e
      rw [e2, hk, hι]
      exact ⟨vs, b, c⟩
    · exact M'.ob k o (old k o hk e)
  · -- the object at n lies where it lay
    have key : ∀ k o, k ≠ n → m'.get k = some o → o.inH = true → ι' k ≠ ι n := fun k o hk e i z => by
      by_cases h : k < m.nx
      · obtain ⟨u, a1, a2⟩ := T0.sub k o h e i
        rw [T0.ext k h] at z
        exact hk (M.inj k n u _ a1 h0 a2 rfl z)
      · have q := T0.new k o (Nat.le_of_not_lt h) e i (.lst vs) (by rw [z]; exact a)
        cases q
    by_cases hk : k = n <;> by_cases hk' : k' = n
    · rw [hk, hk']
    · rw [hk, hι] at z
      exact absurd z.symm (key k' o' hk' (old k' o' hk' e') i')
    · rw [hk', hι] at z
      exact absurd z (key k o hk (old k o hk e) i)
    · exact M'.inj k k' o o' (old k o hk e) (old k' o' hk' e') i i' z
/-- what is no longer wanted is forgotten -/
theorem look_gc {n k : Nat} : ∀ {l : List (Nat × O)}, look k (gcL n l) = if k < n then look k l else none
  | [] => by unfold gcL look; split <;> rfl
  | (j, u) :: r => by
    have ih := look_gc (n := n) (k := k) (l := r)
    unfold gcL
    by_cases hk : k = j
    · cases hp : Nat.blt j n with
      | true =>
        have hj : j < n := Nat.le_of_ble_eq_true hp
        rw [hk, if_pos hj]
        show (match Nat.beq j j with | true => some u | false => look j (gcL n r)) = (match Nat.beq j j with | true => some u | false => look j r)
        rw [Nat.beq_refl]
      | false =>
        have hj : ¬ k < n := fun h => by
          rw [← hk, show Nat.blt k n = true from Nat.ble_eq_true_of_le h] at hp
          cases hp
        rw [if_neg hj] at ih ⊢
        exact ih
    · have e2 : look k ((j, u) :: r) = look k r := by
        show (match Nat.beq k j with | true => some u | false => look k r) = look k r
        rw [nbf hk]
      rw [e2]
      cases hp : Nat.blt j n with
      | true =>
        show (match Nat.beq k j with | true => some u | false => look k (gcL n r)) = _
        rw [nbf hk]
        exact ih
      | false => exact ih
theorem get_cut {n j : Nat} {o : O} (h : (cutM n m).get j = some o) : j < n ∧ m.get j = some o := by
  have h : look j (gcL n m.ob) = some o := h
  rw [look_gc] at h
  split at h
  · exact ⟨by assumption, h⟩
  · cases h
mutual
theorem RepV.low {nx n : Nat} : ∀ {d v}, RepV S ι nx H d v → lowD n d = true → RepV S ι n H d v
  | _, _, .non, _ => .non
  | _, _, .bl b, _ => .bl b
  | _, _, .int b, _ => .int b
  | _, _, .str b, _ => .str b
  | _, _, .ref h, l => .ref (Nat.le_of_ble_eq_true l)
  | _, _, .fn k, _ => .fn k
  | _, _, .ty k, _ => .ty k
  | _, _, .emp h, _ => .emp h
  | _, _, .opq v, _ => .opq v
  | _, _, .cls k, _ => .cls k
  | _, _, .tup h r, l => .tup h (RepVs.low r l)
theorem RepVs.low {nx n : Nat} : ∀ {ds vs}, RepVs S ι nx H ds vs → lowDs n ds = true → RepVs S ι n H ds vs
  | _, _, .nil, _ => .nil
  | _, _, .cons (d := d) (ds := ds) h r, l => by
    have l : (match lowD n d with | true => lowDs n ds | false => false) = true := l
    cases e : lowD n d with
    | true => rw [e] at l; exact .cons (h.low e) (RepVs.low r l)
    | false => rw [e] at l; cases l
end
theorem lowF_at {n : Nat} : ∀ {ρ : List (Option D)} {i : Nat} {d : D}, lowF n ρ = true → getR ρ i = some d → lowD n d = true
  | some x :: r, 0, d, h, e => by
    have h : (match lowD n x with | true => lowF n r | false => false) = true := h
    have e : x = d := Option.some.inj e
    rw [← e]
    cases q : lowD n x with
    | true => rfl
    | false => rw [q] at h; cases h
  | none :: r, 0, d, _, e => by cases e
  | some x :: r, i + 1, d, h, e => by
    have h : (match lowD n x with | true => lowF n r | false => false) = true := h
    cases q : lowD n x with
    | true => rw [q] at h; exact lowF_at (ρ := r) h e
    | false => rw [q] at h; cases h
  | none :: r, i + 1, d, h, e => lowF_at (ρ := r) h e
theorem RepO.low {nx n : Nat} {a : Addr} {o : O} (r : RepO S ι nx H a o) (h : lowO n o = true) : RepO S ι n H a o := by
  cases o with
  | lst ds => obtain ⟨vs, a, b⟩ := r; exact ⟨vs, a, b.low h⟩
  | rol ds => obtain ⟨vs, a, b⟩ := r; exact ⟨vs, a, b.low h⟩
  | kol ds => obtain ⟨vs, a, b⟩ := r; exact ⟨vs, a, b.low h⟩
  | scr ns => exact r
  | ins k fs =>
    obtain ⟨dx, vs, a, b⟩ := r
    exact ⟨dx, vs, a, fun i d e => let ⟨v, e1, e2⟩ := b i d e; ⟨v, e1, e2.low (lowF_at h e)⟩⟩
theorem lowM_ok {n : Nat} : ∀ {l : List (Nat × O)} {k : Nat} {o : O}, lowM n l = true → k < n → look k l = some o → lowO n o = true
  | (j, u) :: r, k, o, h, hk, e => by
    have e : (match Nat.beq k j with | true => some u | false => look k r) = some o := e
    have h : (match Nat.blt j n with | true => (match lowO n u with | true => lowM n r | false => false) | false => lowM n r) = true := h
    by_cases hj : k = j
    · subst hj
      rw [Nat.beq_refl] at e
      cases e
      rw [show Nat.blt k n = true from Nat.ble_eq_true_of_le hk] at h
      cases q : lowO n u with
      | true => rfl
      | false => rw [q] at h; cases h
    · rw [nbf hj] at e
      refine lowM_ok (l := r) ?_ hk e
      cases q : Nat.blt j n with
      | false => rw [q] at h; exact h
      | true =>
        rw [q] at h
        cases q2 : lowO n u with
        | true => rw [q2] at h; exact h
        | false => rw [q2] at h; cases h
theorem canCut_ok {n : Nat} (h : canCut n m = true) : lowM n m.ob = true := by
  unfold canCut at h
  split at h
  · cases h
  · exact h
section
variable {ι' : Nat → Addr} {m' : Mem} {H' : Hp}
theorem Step.cut (T : Step S ι m H ι' m' H') (h : canCut m.nx m' = true) : Step S ι m H ι' (cutM m.nx m') H' where
  nx := Nat.le_refl _
  ext := T.ext
  new := fun j o h e => T.new j o h (get_cut e).2
  sub := fun j o h e => T.sub j o h (get_cut e).2
  subw := fun j h ⟨es, e, w⟩ => T.subw j h ⟨es, (get_cut e).2, w⟩
  keep := T.keep
  there := T.there
  mem := ⟨fun j o e => (get_cut e).1, fun j o e => (T.mem.ob j o (get_cut e).2).low (lowM_ok (canCut_ok h) (get_cut e).1 (get_cut e).2), fun j j' o o' e e' => T.mem.inj j j' o o' (get_cut e).2 (get_cut e').2, T.mem.tabs⟩
theorem Step.cutN {n : Nat} (T : Step S ι m H ι' m' H') (hn : m.nx ≤ n) (h : lowM n m'.ob = true) : Step S ι m H ι' (cutM n m') H' where
  nx := hn
  ext := T.ext
  new := fun j o h e => T.new j o h (get_cut e).2
  sub := fun j o h e => T.sub j o h (get_cut e).2
  subw := fun j h ⟨es, e, w⟩ => T.subw j h ⟨es, (get_cut e).2, w⟩
  keep := T.keep
  there := T.there
  mem := ⟨fun j o e => (get_cut e).1, fun j o e => (T.mem.ob j o (get_cut e).2).low (lowM_ok h (get_cut e).1 (get_cut e).2), fun j j' o o' e e' => T.mem.inj j j' o o' (get_cut e).2 (get_cut e').2, T.mem.tabs⟩
theorem Step.tidy (T : Step S ι m H ι' m' H') : Step S ι m H ι' (tdM m.nx m') H' := by
  unfold tdM
  cases h : canCut m.nx m' with
  | true => exact T.cut h
  | false => exact T
theorem lowR_at {n : Nat} : ∀ {ρ : Rho} {i : Nat} {d : D}, getR (lowR n ρ) i = some d → getR ρ i = some d ∧ lowD n d = true
  | [], _, _, h => by cases h
  | some x :: r, 0, d, h => by
    have h : (match lowD n x with | true => some x | false => none) = some d := h
    cases e : lowD n x with
    | true => rw [e] at h; cases h; exact ⟨rfl, e⟩
    | false => rw [e] at h; cases h
  | none :: r, 0, d, h => by cases h
  | some x :: r, i + 1, d, h => lowR_at (ρ := r) h
  | none :: r, i + 1, d, h => lowR_at (ρ := r) h
theorem lowR_len {n : Nat} : ∀ {ρ : Rho}, (lowR n ρ).length = ρ.length
  | [] => rfl
  | some x :: r => congrArg (· + 1) lowR_len
  | none :: r => congrArg (· + 1) lowR_len
theorem RepS.tidy {n : Nat} {ρ : Rho} {σ : L2.St} (r : RepS S ι' m'.nx H' ρ σ) : RepS S ι' (tdM n m').nx H' (tdR n m' ρ) σ := by
  unfold tdM tdR
  cases h : canCut n m' with
  | true => exact ⟨by rw [lowR_len]; exact r.len, fun i d e => let ⟨v, a, b⟩ := r.at_ i d (lowR_at e).1; ⟨v, a, b.low (lowR_at e).2⟩⟩
  | false => exact r
theorem lowAll_at {n : Nat} : ∀ {ρ : Rho} {i : Nat} {d : D}, lowAll n ρ = true → getR ρ i = some d → lowD n d = true
  | some x :: r, 0, d, h, e => by
    have h : (match lowD n x with | true => lowAll n r | false => false) = true := h
    have e : x = d := Option.some.inj e
    rw [← e]
    cases q : lowD n x with
    | true => rfl
    | false => rw [q] at h; cases h
  | none :: r, 0, d, _, e => by cases e
  | some x :: r, i + 1, d, h, e => by
    have h : (match lowD n x with | true => lowAll n r | false => false) = true := h
    cases q : lowD n x with
    | true => rw [q] at h; exact lowAll_at (ρ := r) h e
    | false => rw [q] at h; cases h
  | none :: r, i + 1, d, h, e => lowAll_at (ρ := r) h e
theorem Step.tidyS (T : Step S ι m H ι' m' H') (ρ : Rho) : Step S ι m H ι' (tdS m.nx ρ m') H' := by
  unfold tdS
  cases h : canCut m.nx m' with
  | true =>
    dsimp only
    cases lowAll m.nx ρ with
    | true => exact T.cut h
    | false => exact T
  | false => exact T
theorem RepS.tidyS {n : Nat} {ρ : Rho} {σ : L2.St} (r : RepS S ι' m'.nx H' ρ σ) : RepS S ι' (tdS n ρ m').nx H' ρ σ := by
  unfold tdS
  cases h : canCut n m' with
  | true =>
    dsimp only
    cases h2 : lowAll n ρ with
    | true => exact ⟨r.len, fun i d e => let ⟨v, a, b⟩ := r.at_ i d e; ⟨v, a, b.low (lowAll_at h2 e)⟩⟩
    | false => exact r
  | false => exact r
theorem Step.tidyMin (T : Step S ι m H ι' m' H') (ρ : Rho) : ∀ (k n : Nat), m.nx ≤ n → Step S ι m H ι' (tdMin k n ρ m') H'
  | 0, _, _ => T
  | k + 1, n, hn => by
    unfold tdMin
    cases Nat.blt n m'.nx with
    | false => exact T
    | true =>
      dsimp only
      cases lowAll n ρ with
      | false => exact T.tidyMin ρ k (n + 1) (Nat.le_succ_of_le hn)
      | true =>
        dsimp only
        cases h : lowM n m'.ob with
        | true => exact T.cutN hn h
        | false => exact T.tidyMin ρ k (n + 1) (Nat.le_succ_of_le hn)
theorem RepS.tidyMin {ρ : Rho} {σ : L2.St} (r : RepS S ι' m'.nx H' ρ σ) : ∀ (k n : Nat), RepS S ι' (tdMin k n ρ m').nx H' ρ σ
  | 0, _ => r
  | k + 1, n => by
    unfold tdMin
    cases Nat.blt n m'.nx with
    | false => exact r
    | true =>
      dsimp only
      cases h2 : lowAll n ρ with
      | false => exact r.tidyMin k (n + 1)
      | true =>
        dsimp only
        cases h : lowM n m'.ob with
        | true => exact ⟨r.len, fun i d e => let ⟨v, a, b⟩ := r.at_ i d e; ⟨v, a, b.low (lowAll_at h2 e)⟩⟩
        | false => exact r.tidyMin k (n + 1)
/-- a fresh thing is kept, at the first place -/
theorem Step.move (T : Step S ι m H ι' m' H') (h : canCut m.nx m' = true) {r : Nat} {u : O} (hr : m'.get r = some u) (hu : u.inH = true) (hn : m.nx ≤ r) (hd : lowO m.nx u = true) :
    Step S ι m H (bump ι' m.nx (ι' r)) ⟨m.nx + 1, (m.nx, u) :: gcL m.nx m'.ob⟩ H' := by
  have get1 : ∀ j o, (⟨m.nx + 1, (m.nx, u) :: gcL m.nx m'.ob⟩ : Mem).get j = some o → (j = m.nx ∧ o = u) ∨ (j < m.nx ∧ m'.get j = some o) := fun j o e => by
    have e : (match Nat.beq j m.nx with | true => some u | false => look j (gcL m.nx m'.ob)) = some o := e
    by_cases hj : j = m.nx
    · rw [hj, Nat.beq_refl] at e
      exact .inl ⟨hj, (Option.some.inj e).symm⟩
    · rw [nbf hj] at e
      exact .inr (get_cut (m := m') e)
  have C := T.cut h
  have hι : ∀ j, j < m.nx → bump ι' m.nx (ι' r) j = ι' j := fun j h => bump_ne (Nat.ne_of_lt h)
  refine ⟨Nat.le_succ _, fun j h => by rw [hι j h]; exact T.ext j h, fun j o h e i => ?_, fun j o h e i => ?_, fun j h ⟨es, e, w⟩ => ?_, T.keep, T.there, fun j o e => ?_, fun j o e => ?_, fun j j' o o' e e' i i' z => ?_, T.mem.tabs⟩
  · rcases get1 j o e with ⟨rfl, _⟩ | ⟨h2, _⟩
    · rw [bump_same]; exact T.new r _ hn hr hu
    · exact absurd h2 (Nat.not_lt.mpr h)
  · rcases get1 j o e with ⟨rfl, _⟩ | ⟨_, e⟩
    · exact absurd h (Nat.lt_irrefl _)
    · exact T.sub j o h e i
  · rcases get1 j _ e with ⟨rfl, _⟩ | ⟨_, e⟩
    · exact absurd h (Nat.lt_irrefl _)
    · exact T.subw j h ⟨es, e, w⟩
  · rcases get1 j o e with ⟨rfl, _⟩ | ⟨h, _⟩
    · exact Nat.lt_succ_self _
    · exact Nat.lt_succ_of_lt h
  · rcases get1 j o e with ⟨rfl, rfl⟩ | ⟨hj, e⟩
    · rw [bump_same]
      exact ((T.mem.ob r _ hr).low hd).up (fun _ _ h _ => h) hι (Nat.le_succ _) fun _ => rfl
    · rw [hι j hj]
      exact ((T.mem.ob j o e).low (lowM_ok (canCut_ok h) hj e)).up (fun _ _ h _ => h) hι (Nat.le_succ _) fun _ => rfl
  · have key : ∀ j o, j < m.nx → m'.get j = some o → o.inH = true → ι' j ≠ ι' r := fun j o hj e i z => by
      have := T.mem.inj j r o _ e hr i hu z
      omega
    rcases get1 j o e with ⟨rfl, eo⟩ | ⟨hj, e1⟩ <;> rcases get1 j' o' e' with ⟨rfl, eo'⟩ | ⟨hj', e1'⟩
    · rfl
    · rw [bump_same, hι j' hj'] at z
      exact absurd z.symm (key j' o' hj' e1' i')
    · rw [bump_same, hι j hj] at z
      exact absurd z (key j o hj e1 i)
    · rw [hι j hj, hι j' hj'] at z
      exact T.mem.inj j j' o o' e1 e1' i i' z
end
end
end Ev

set_option Elab.async false
set_option linter.all false
set_option maxRecDepth 100000
set_option maxHeartbeats 4000000
namespace Ev
open PySem PySem.Spec PyProof.Rows L2

/-! ## operations by values -/
def r2M (S : Sta) (f : D → D → MV D) : R2 := fun x y H Q => ∃ ι m E d e, RepM S ι H m ∧ RepV S ι m.nx H d x ∧ RepV S ι m.nx H e y ∧ PostG S ι m H E (f d e m) fun c ι' m' H' => ∀ v, RepV S ι' m'.nx H' c v → Q v H'
def rcM (S : Sta) (f : List D → MV D) : List V → Hp → VK → Prop := fun xs H Q => ∃ ι m E ds, RepM S ι H m ∧ RepVs S ι m.nx H ds xs ∧ PostG S ι m H E (f ds m) fun c ι' m' H' => ∀ v, RepV S ι' m'.nx H' c v → Q v H'
section
variable {S : Sta} {ι : Nat → Addr} {nx : Nat} {m : Mem} {H : Hp} {X : Cx}
theorem RepVs.len : ∀ {ds : List D} {vs : List V}, RepVs S ι nx H ds vs → ds.length = vs.length
  | _, _, .nil => rfl
  | _, _, .cons _ r => congrArg (· + 1) r.len
theorem RepVs.app : ∀ {ds es : List D} {vs us : List V}, RepVs S ι nx H ds vs → RepVs S ι nx H es us → RepVs S ι nx H (ds ++ es) (vs ++ us)
  | _, _, _, _, .nil, q => q
  | _, _, _, _, .cons h r, q => .cons h (r.app q)
theorem RepVs.drop : ∀ {ds : List D} {vs : List V} (n : Nat), RepVs S ι nx H ds vs → RepVs S ι nx H (ds.drop n) (vs.drop n)
  | _, _, 0, r => r
  | _, _, _ + 1, .nil => .nil
  | _, _, n + 1, .cons _ r => r.drop n
theorem RepVs.take : ∀ {ds : List D} {vs : List V} (n : Nat), RepVs S ι nx H ds vs → RepVs S ι nx H (ds.take n) (vs.take n)
  | _, _, 0, _ => .nil
  | _, _, _ + 1, .nil => .nil
  | _, _, n + 1, .cons h r => .cons h (r.take n)
theorem RepVs.set : ∀ {ds : List D} {vs : List V} {d : D} {v : V} (n : Nat), RepV S ι nx H d v → RepVs S ι nx H ds vs → RepVs S ι nx H (ds.set n d) (vs.set n v)
  | _, _, _, _, _, _, .nil => .nil
  | _, _, _, _, 0, h, .cons _ r => .cons h r
  | _, _, _, _, n + 1, h, .cons g r => .cons g (RepVs.set n h r)
theorem RepVs.get : ∀ {ds : List D} {vs : List V} {d : D} (n : Nat), RepVs S ι nx H ds vs → ds[n]? = some d → ∃ v, vs[n]? = some v ∧ RepV S ι nx H d v
  | _, _, _, _, .nil, e => by simp at e
  | _, _, _, 0, .cons h r, e => by
    simp at e
    exact ⟨_, by simp, e ▸ h⟩
  | _, _, _, n + 1, .cons h r, e => by
    obtain ⟨v, a, b⟩ := r.get n (by simpa using e)
    exact ⟨v, by simpa using a, b⟩
theorem RepVs.atI {ds : List D} {vs : List V} {i : Int} {d : D} (r : RepVs S ι nx H ds vs) (h : L2.atI ds i = some d) : ∃ v, L2.atI vs i = some v ∧ RepV S ι nx H d v := by
  unfold L2.atI at h ⊢
  rw [← r.len]
  cases e : L2.ixN ds.length i with
  | none => rw [e] at h; cases h
  | some j =>
    rw [e] at h
    exact r.get j h
theorem RepVs.rev : ∀ {ds : List D} {vs : List V}, RepVs S ι nx H ds vs → RepVs S ι nx H ds.reverse vs.reverse
  | _, _, .nil => .nil
  | _, _, .cons h r => by
    rw [List.reverse_cons, List.reverse_cons]
    exact r.rev.app (.cons h .nil)
theorem RepVs.rep : ∀ {ds : List D} {vs : List V} (n : Nat), RepVs S ι nx H ds vs → RepVs S ι nx H (List.replicate n ds).flatten (List.replicate n vs).flatten
  | _, _, 0, _ => .nil
  | ds, vs, n + 1, r => by
    rw [List.replicate_succ, List.replicate_succ, List.flatten_cons, List.flatten_cons]
    exact r.app (RepVs.rep n r)
theorem ints_rep {S : Sta} {ι : Nat → Addr} {nx : Nat} {H : Hp} : ∀ ns : List Int, RepVs S ι nx H (ns.map D.int) (ns.map V.int)
  | [] => .nil
  | i :: r => .cons (.int i) (ints_rep r)
theorem RepM.lstL (M : RepM S ι H m) {n : Nat} {ds : List D} (e : m.lst n = some ds) : ∃ vs, SqL S.K H (ι n) vs ∧ RepVs S ι m.nx H ds vs := by
  unfold Mem.lst at e
  cases q : m.get n with
  | none => rw [q] at e; cases e
  | some o =>
    rw [q] at e
    have r := M.ob n o q
    cases o with
    | lst es => cases e; obtain ⟨vs, a, b⟩ := r; exact ⟨vs, .of a, b⟩
    | rol es => cases e; obtain ⟨vs, a, b⟩ := r; exact ⟨vs, .inl a, b⟩
    | kol es => cases e; obtain ⟨vs, a, b⟩ := r; exact ⟨vs, .inr a, b⟩
    | scr ns => cases e; exact ⟨_, r.elim .inr fun ⟨o, z⟩ => .inl (.inr ⟨o, z⟩), ints_rep ns⟩
    | ins k fs => cases e
theorem RepM.seq (M : RepM S ι H m) {d : D} {v : V} {ds : List D} (e : seqOf m d = some ds) (r : RepV S ι m.nx H d v) : ∃ a vs, v = .ref a ∧ (SqL S.K H a vs ∨ SqT S.K H a vs) ∧ RepVs S ι m.nx H ds vs := by
  cases r with
  | tup h q => cases e; exact ⟨_, _, rfl, .inr h, q⟩
  | ref h =>
    obtain ⟨vs, a, b⟩ := M.lstL e
    exact ⟨_, _, rfl, .inl a, b⟩
  | _ => cases e
/-! ### data as a whole -/
theorem omap_cons {α β : Type} {f : α → Option β} {a : α} {r : List α} {z : List β} (h : omap f (a :: r) = some z) : ∃ b bs, f a = some b ∧ omap f r = some bs ∧ z = b :: bs := by
  unfold omap at h
  cases e : f a with
  | none => rw [e] at h; cases h
  | some b =>
    rw [e] at h
    cases e2 : omap f r with
    | none => rw [e2] at h; cases h
    | some bs => rw [e2] at h; cases h; exact ⟨b, bs, rfl, rfl, rfl⟩
theorem toPy_all {f : D → Option PyData} {k : Nat} (hf : ∀ d v p, f d = some p → RepV S ι nx H d v → Dp S.K H v p ∧ p.canLay0 = true ∧ p.depth ≤ k) : ∀ {ds : List D} {vs : List V} {ps : List PyData}, omap f ds = some ps → RepVs S ι nx H ds vs →
    DpAll S.K H vs ps ∧ PyData.canLayAll0 ps = true ∧ PyData.depthAll ps ≤ k
  | [], _, _, h, r => by
    cases r
    cases h
    exact ⟨.nil, by simp [PyData.canLayAll0], by simp [PyData.depthAll]⟩
  | d :: ds, _, _, h, r => by
    obtain ⟨b, bs, h1, h2, rfl⟩ := omap_cons h
    cases r with
    | cons q r =>
      obtain ⟨a1, a2, a3⟩ := hf _ _ _ h1 q
      obtain ⟨b1, b2, b3⟩ := toPy_all hf h2 r
      exact ⟨.cons a1 b1, by simp [PyData.canLayAll0, a2, b2], by simp only [PyData.depthAll]; omega⟩
theorem toPy_ok (M : RepM S ι H m) : ∀ (f : Nat) (d : D) (v : V) (p : PyData), toPy m f d = some p → RepV S ι m.nx H d v → Dp S.K H v p ∧ p.canLay0 = true ∧ p.depth ≤ f
  | f, d, v, p, h, r => by
    cases r with
    | non => unfold toPy at h; cases h; exact ⟨.non, by simp [PyData.canLay0], by simp [PyData.depth]⟩
    | bl b => unfold toPy at h; cases h; exact ⟨.bl b, by simp [PyData.canLay0], by simp [PyData.depth]⟩
    | int b => unfold toPy at h; cases h; exact ⟨.int b, by simp [PyData.canLay0], by simp [PyData.depth]⟩
    | str x =>
      unfold toPy at h
      cases e : PyData.strOk x with
      | false => rw [e] at h; cases h
      | true => rw [e] at h; cases h; exact ⟨.str x, by simp [PyData.canLay0, e], by simp [PyData.depth]⟩
    | fn k => cases f <;> (unfold toPy at h; cases h)
    | ty k => cases f <;> (unfold toPy at h; cases h)
    | emp _ => cases f <;> (unfold toPy at h; cases h)
    | opq _ => cases f <;> (unfold toPy at h; cases h)
    | cls _ => cases f <;> (unfold toPy at h; cases h)
    | @tup a vs ds hs q =>
      cases f with
      | zero => unfold toPy at h; cases h
      | succ f =>
        unfold toPy at h
        cases e : omap (toPy m f) ds with
        | none => rw [e] at h; cases h
        | some xs =>
          rw [e] at h
          cases h
          obtain ⟨b1, b2, b3⟩ := toPy_all (fun d v p => toPy_ok M f d v p) e q
          exact ⟨.tup hs b1, by simp [PyData.canLay0, b2], by simp only [PyData.depth]; omega⟩
    | @ref n hn =>
      cases f with
      | zero => unfold toPy at h; cases h
      | succ f =>
        unfold toPy at h
        cases e0 : m.lst n with
        | none => rw [e0] at h; cases h
        | some ds =>
          rw [e0] at h
          have h : (match omap (toPy m f) ds with | some xs => some (PyData.list xs) | none => none) = some p := h
          obtain ⟨vs, a, b⟩ := M.lstL e0
          cases e : omap (toPy m f) ds with
          | none => rw [e] at h; cases h
          | some xs =>
            rw [e] at h
            cases h
            obtain ⟨b1, b2, b3⟩ := toPy_all (fun d v p => toPy_ok M f d v p) e b
            exact ⟨.lst a b1, by simp [PyData.canLay0, b2], by simp only [PyData.depth]; omega⟩
theorem toPy_sh (M : RepM S ι H m) {d : D} {v : V} {p : PyData} (h : toPy m 9 d = some p) (r : RepV S ι m.nx H d v) : Dp S.K H v p ∧ SeqAt.shaped p = true := by
  obtain ⟨a, b, c⟩ := toPy_ok M 9 d v p h r
  refine ⟨a, ?_⟩
  unfold SeqAt.shaped
  rw [b, decide_eq_true (show p.depth ≤ 64 by omega)] <;> rfl
theorem guardO_some {α : Type} {b : Bool} {a c : α} (h : guardO b a = some c) : b = true ∧ a = c := by
  cases b with
  | false => cases h
  | true => exact ⟨rfl, Option.some.inj h⟩
/-- an outcome that is plain -/
theorem PostG.opt {α : Type} {E : XK} {o : Option α} {Q : α → (Nat → Addr) → Mem → Hp → Prop} (M : RepM S ι H m) (p : PostG S ι m H E (Ev.opt o m) Q) : ∃ a, o = some a ∧ Q a ι m H := by
  cases o with
  | none => exact p.elim
  | some a => exact ⟨a, rfl, PostG.ok M p⟩
theorem PostG.newL {E : XK} {ds : List D} {vs : List V} {Q : D → (Nat → Addr) → Mem → Hp → Prop} (M : RepM S ι H m) (p : PostG S ι m H E (Ev.newL ds m) Q) (r : RepVs S ι m.nx H ds vs) :
    ds.length ≤ 16000000 ∧ ∀ a, H a = none → ∃ ι' m', Q (.ref m.nx) ι' m' (upd H a (.lst vs)) ∧ RepV S ι' m'.nx (upd H a (.lst vs)) (.ref m.nx) (.ref a) ∧ RepM S ι' (upd H a (.lst vs)) m' := by
  unfold Ev.newL at p
  cases e : Nat.ble ds.length 16000000 with
  | false => rw [e] at p; exact p.elim
  | true =>
    rw [e] at p
    refine ⟨Nat.le_of_ble_eq_true e, fun a ha => ?_⟩
    have T := Step.new_lst M ha r
    refine ⟨_, _, p _ _ T, ?_, T.mem⟩
    have q : RepV S (bump ι m.nx a) (m.new (.lst ds)).nx (upd H a (.lst vs)) (.ref m.nx) (.ref (bump ι m.nx a m.nx)) := .ref (Nat.lt_succ_self _)
    rw [bump_same] at q
    exact q
theorem le_line {n : Nat} (h : n ≤ 16000000) : n ≤ sizeLine := by rw [sizeLine_eq]; omega
end
/-! ### + - * // % ** -/
def BOp.py : BOp → Operator | .add => .Add | .sub => .Sub | .mul => .Mult | .fdiv => .FloorDiv | .mod => .Mod | .pow => .Pow
theorem mul_ok {i j : Int} (h : mulOk i j = true) : PySem.IntMulOk i j := by
  unfold mulOk at h
  simp only [Bool.or_eq_true, b64, Bool.and_eq_true, decide_eq_true_eq] at h
  rcases h with (h | h) | h
  · exact CMul.ok (.inl ⟨by omega, by omega⟩)
  · exact CMul.ok (.inr ⟨by omega, by omega⟩)
  · exact CMulW.ok (Nat.le_of_ble_eq_true h)
section
variable {S : Sta} {X : Cx}
theorem op_int (op : BOp) : OpR X (binaryOp op.py) fun x y H Q => ∃ i j k, x = .int i ∧ y = .int j ∧ binI op i j = some k ∧ Q (.int k) H := by
  rintro pins s σ H x y v u Q I rx ry ⟨i, j, k, rfl, rfl, e, q⟩
  obtain ⟨t, rfl⟩ := rx
  obtain ⟨t', rfl⟩ := ry
  have fin : ∀ z, z = k → EP X pins σ Q (.int z s.toks) { s with toks := s.toks + 1 } := fun z hz => ⟨.int k, H, I.tok _, ⟨s.toks, hz ▸ rfl⟩, q⟩
  cases op with
  | add => exact add_int (fin _ (Option.some.inj e))
  | sub => exact sub_int (fin _ (Option.some.inj e))
  | mul => obtain ⟨h, e⟩ := guardO_some e; exact mul_int (fin _ e) (mul_ok h)
  | fdiv =>
    obtain ⟨h, e⟩ := guardO_some e
    simp only [Bool.and_eq_true, Bool.not_eq_true', decide_eq_false_iff_not] at h
    exact floordiv_int h.1 (fin _ e) (.inl (PyProof.noPylong_of_log2 (Nat.le_of_ble_eq_true h.2)))
  | mod =>
    obtain ⟨h, e⟩ := guardO_some e
    simp only [Bool.not_eq_true', decide_eq_false_iff_not] at h
    exact mod_int' h (fin _ e)
  | pow =>
    obtain ⟨h, e⟩ := guardO_some e
    simp only [Bool.and_eq_true, decide_eq_true_eq] at h
    refine pow_int h.1 ?_ (fin _ e)
    have h2 := Nat.le_of_ble_eq_true h.2
    have h3 : Builtin.Int.intBits i ≤ i.natAbs.log2 + 1 := by unfold Builtin.Int.intBits; split <;> omega
    have h4 : Builtin.Int.intBits i * j.toNat ≤ 134217728 := Nat.le_trans (Nat.mul_le_mul_right _ h3) h2
    have e5 : (Builtin.Int.intBits i : Int) * j = ((Builtin.Int.intBits i * j.toNat : Nat) : Int) := by
      rw [Int.natCast_mul, Int.toNat_of_nonneg h.1]
    rw [e5]
    have e6 : ((2 : Int) ^ 27) = ((134217728 : Nat) : Int) := by decide
    rw [e6]
    exact Int.ofNat_le.mpr h4
theorem ob (hK : X.K = S.K) (op : BOp) : OpR X (binaryOp op.py) (r2M S (binF op)) := by
  intro pins s σ H x y v u Q I rx ry ⟨ι, m, E, d, e, M, rd, re, p⟩
  cases rd with
  | int i =>
    cases re with
    | int j =>
      obtain ⟨c, hc, q⟩ := PostG.opt M p
      cases hb : binI op i j with
      | none => rw [hb] at hc; cases hc
      | some k =>
        rw [hb] at hc
        cases hc
        exact op_int op pins s σ H _ _ v u Q I rx ry ⟨i, j, k, rfl, rfl, hb, q _ (.int k)⟩
    | _ => exact p.elim
  | str a =>
    cases re with
    | str b =>
      cases op with
      | add =>
        obtain ⟨c, hc, q⟩ := PostG.opt M p
        obtain ⟨h, rfl⟩ := guardO_some hc
        exact op_add_str pins s σ H _ _ v u Q I rx ry ⟨a, b, rfl, rfl, le_line (Nat.le_of_ble_eq_true h), q _ (.str _)⟩
      | _ => exact p.elim
    | _ => exact p.elim
  | @tup a xs ds ha r =>
    cases re with
    | @tup b ys es hb r2 =>
      cases op with
      | add =>
        obtain ⟨c, hc, q⟩ := PostG.opt M p
        obtain ⟨h, rfl⟩ := guardO_some hc
        have h := Nat.le_of_ble_eq_true h
        refine op_catA pins s σ H _ _ v u Q I rx ry ⟨a, b, xs, ys, rfl, rfl, by rw [hK]; exact ha, by rw [hK]; exact hb, le_line (by rw [← r.len, ← r2.len]; exact h), fun z => ?_, fun _ z => ?_, fun _ _ t ht => ?_⟩
        · subst z
          cases r
          exact q _ (.tup hb r2)
        · subst z
          cases r2
          rw [List.append_nil] at q
          exact q _ (.tup ha r)
        · have p' := PostG.step (Step.laid M ht (u := .tup (xs ++ ys))) p
          have M' := (Step.laid M ht (u := .tup (xs ++ ys))).mem
          obtain ⟨c, hc, q⟩ := PostG.opt M' p'
          obtain ⟨_, rfl⟩ := guardO_some hc
          exact q _ (new_tup M ht (r.app r2))
      | _ => exact p.elim
    | int k =>
      cases op with
      | mul =>
        obtain ⟨c, hc, q⟩ := PostG.opt M p
        obtain ⟨h, rfl⟩ := guardO_some hc
        simp only [Bool.and_eq_true, decide_eq_true_eq] at h
        obtain ⟨⟨h1, h2⟩, h4⟩ := h
        refine TmG.op_repG pins s σ H _ _ v u Q I rx ry ⟨a, k, xs, rfl, rfl, by rw [hK]; exact ha, by omega, by omega, by rw [← r.len]; exact Nat.le_of_ble_eq_true h4, fun z => ?_, fun _ t ht => ?_⟩
        · rcases z with z | z
          · subst z
            cases r
            rw [show (List.replicate k.toNat ([] : List D)).flatten = [] from List.flatten_replicate_nil] at q
            exact q _ (.tup ha .nil)
          · subst z
            rw [show (List.replicate (1 : Int).toNat ds).flatten = ds by simp] at q
            exact q _ (.tup ha r)
        · have p' := PostG.step (Step.laid M ht (u := .tup (List.replicate k.toNat xs).flatten)) p
          have M' := (Step.laid M ht (u := .tup (List.replicate k.toNat xs).flatten)).mem
          obtain ⟨c, hc, q⟩ := PostG.opt M' p'
          obtain ⟨_, rfl⟩ := guardO_some hc
          exact q _ (new_tup M ht (r.rep _))
      | _ => exact p.elim
    | _ => exact p.elim
  | @ref n hn =>
    cases re with
    | @ref k hk =>
      cases op with
      | add =>
        have p : PostG S ι m H E (match m.get n with
          | some (.lst x) => (match m.get k with | some (.lst y) => newL (x ++ y) m | _ => .bad)
          | _ => .bad) _ := p
        cases e1 : m.get n with
        | none => rw [e1] at p; exact p.elim
        | some o1 =>
          rw [e1] at p
          cases o1 with
          | lst xs =>
            have p : PostG S ι m H E (match m.get k with | some (.lst y) => newL (xs ++ y) m | _ => .bad) _ := p
            cases e2 : m.get k with
            | none => rw [e2] at p; exact p.elim
            | some o2 =>
              rw [e2] at p
              cases o2 with
              | lst ys =>
                obtain ⟨vs, a1, b1⟩ := M.ob _ _ e1
                obtain ⟨us, a2, b2⟩ := M.ob _ _ e2
                obtain ⟨hz, q⟩ := PostG.newL M p (b1.app b2)
                rw [List.length_append, b1.len, b2.len] at hz
                refine op_cat pins s σ H _ _ v u Q I rx ry ⟨_, _, vs, us, rfl, rfl, a1, a2, le_line hz, fun t ht => ?_⟩
                obtain ⟨_, _, q1, q2, _⟩ := q t ht
                exact q1 _ q2
              | _ => exact p.elim
          | _ => exact p.elim
      | _ => exact p.elim
    | int k =>
      cases op with
      | mul =>
        have p : PostG S ι m H E (match m.get n with
          | some (.lst x) => (match Nat.ble (x.length * k.toNat) 16000000 && Nat.ble k.natAbs 16000000 with | true => newL (List.replicate k.toNat x).flatten m | false => .bad)
          | _ => .bad) _ := p
        cases e1 : m.get n with
        | none => rw [e1] at p; exact p.elim
        | some o1 =>
          rw [e1] at p
          cases o1 with
          | lst xs =>
            have p : PostG S ι m H E (match Nat.ble (xs.length * k.toNat) 16000000 && Nat.ble k.natAbs 16000000 with | true => newL (List.replicate k.toNat xs).flatten m | false => .bad) _ := p
            cases e2 : Nat.ble (xs.length * k.toNat) 16000000 && Nat.ble k.natAbs 16000000 with
            | false => rw [e2] at p; exact p.elim
            | true =>
              rw [e2] at p
              rw [Bool.and_eq_true] at e2
              have h1 := Nat.le_of_ble_eq_true e2.1
              have h2 := Nat.le_of_ble_eq_true e2.2
              obtain ⟨vs, a1, b1⟩ := M.ob _ _ e1
              obtain ⟨hz, q⟩ := PostG.newL M p (b1.rep k.toNat)
              refine op_rep pins s σ H _ _ v u Q I rx ry ⟨_, k, vs, rfl, rfl, a1, by omega, by omega, le_line (by rw [← b1.len]; exact h1), fun t ht => ?_⟩
              obtain ⟨_, _, q1, q2, _⟩ := q t ht
              exact q1 _ q2
          | _ => exact p.elim
      | _ => exact p.elim
    | _ => exact p.elim
  | _ => cases re <;> exact p.elim
end
end Ev

set_option Elab.async false
set_option linter.all false
set_option maxRecDepth 100000
set_option maxHeartbeats 4000000
namespace Ev
open PySem PySem.Spec PyProof.Rows L2

def COp.py : COp → CmpOp | .eq => .Eq | .ne => .NotEq | .lt => .Lt | .le => .LtE | .gt => .Gt | .ge => .GtE | .is => .Is | .isnot => .IsNot | .in_ => .In | .notin => .NotIn
section
variable {S : Sta} {ι : Nat → Addr} {nx : Nat} {m : Mem} {H : Hp} {X : Cx}
theorem flat_ok {d : D} {v : V} (r : RepV S ι nx H d v) (f : flatD d = true) : flatV v = true := by
  cases r <;> first | rfl | cases f
theorem flats_ok : ∀ {ds : List D} {vs : List V}, RepVs S ι nx H ds vs → ds.all flatD = true → vs.all flatV = true
  | _, _, .nil, _ => rfl
  | _, _, .cons h r, f => by
    rw [List.all_cons, Bool.and_eq_true] at f ⊢
    exact ⟨flat_ok h f.1, flats_ok r f.2⟩
theorem eqF_ok {d e : D} {v u : V} (r : RepV S ι nx H d v) (q : RepV S ι nx H e u) (f : flatD d = true) (g : flatD e = true) : eqF d e = eqV v u := by
  cases r <;> first | (cases f; done) | (cases q <;> first | (cases g; done) | rfl)
theorem any_ok {e : D} {u : V} (q : RepV S ι nx H e u) (g : flatD e = true) : ∀ {ds : List D} {vs : List V}, RepVs S ι nx H ds vs → ds.all flatD = true → (ds.any fun y => eqF y e) = inV u vs
  | _, _, .nil, _ => rfl
  | _, _, .cons h r, f => by
    rw [List.all_cons, Bool.and_eq_true] at f
    unfold inV
    rw [List.any_cons, List.any_cons, eqF_ok h q f.1 g, any_ok q g r f.2]
    rfl
theorem map_bl {o : Option Bool} {c : D} (h : o.map D.bl = some c) : ∃ b, o = some b ∧ c = .bl b := by
  cases o with
  | none => cases h
  | some b => exact ⟨b, rfl, (Option.some.inj h).symm⟩
theorem deq_ok (M : RepM S ι H m) {d e : D} {v u : V} {b : Bool} (h : deq m d e = some b) (r : RepV S ι m.nx H d v) (q : RepV S ι m.nx H e u) :
    ∃ p p', Dp S.K H v p ∧ Dp S.K H u p' ∧ SeqAt.shaped p = true ∧ SeqAt.shaped p' = true ∧ PyData.eqv p p' = b := by
  unfold deq at h
  cases e1 : toPy m 9 d with
  | none => rw [e1] at h; cases h
  | some p =>
    rw [e1] at h
    have h : (match toPy m 9 e with | some y => some (PyData.eqv p y) | none => none) = some b := h
    cases e2 : toPy m 9 e with
    | none => rw [e2] at h; cases h
    | some p' =>
      rw [e2] at h
      obtain ⟨a1, a2⟩ := toPy_sh M e1 r
      obtain ⟨b1, b2⟩ := toPy_sh M e2 q
      exact ⟨p, p', a1, b1, a2, b2, Option.some.inj h⟩
theorem eq_any (hK : X.K = S.K) (hu : X.A.units + 64 < cLine) (neg : Bool) : OpR X (compareOp (if neg then .NotEq else .Eq)) (fun x y H Q => ∃ ι m d e b, RepM S ι H m ∧ RepV S ι m.nx H d x ∧ RepV S ι m.nx H e y ∧ deq m d e = some b ∧ Q (.bl (if neg then !b else b)) H) := by
  rintro pins s σ H x y v u Q I rx ry ⟨ι, m, d, e, b, M, rd, re, h, q⟩
  obtain ⟨p, p', a1, a2, a3, a4, rfl⟩ := deq_ok M h rd re
  rw [← hK] at a1 a2
  cases neg with
  | false => exact op_eqD hu pins s σ H x y v u Q I rx ry ⟨p, p', a1, a2, a3, a4, q⟩
  | true => exact op_neD hu pins s σ H x y v u Q I rx ry ⟨p, p', a1, a2, a3, a4, q⟩
theorem deq_int (i j : Int) : deq m (.int i) (.int j) = some (decide (i = j)) := by
  show some (i == j) = _
  rw [Bool.beq_eq_decide_eq]
theorem cmp_eq (d e : D) : cmpF .eq d e m = deq m d e := by
  show (match d, e with | .int i, .int j => some (decide (i = j)) | _, _ => deq m d e) = _
  split
  · exact (deq_int _ _).symm
  · rfl
theorem cmp_ne (d e : D) : cmpF .ne d e m = (deq m d e).map (!·) := by
  show (match d, e with | .int i, .int j => some (!decide (i = j)) | _, _ => (deq m d e).map (!·)) = _
  split
  · rw [deq_int] <;> rfl
  · rfl
theorem isN_ok {d : D} {v : V} {b : Bool} (r : RepV S ι nx H d v) (h : isNoneD d = some b) : decide (v = .non) = b := by
  cases r <;> first | (cases h; rfl) | cases h
def cmpD (o : COp) (d e : D) : Option Bool := match d, e with | .int i, .int j => cmpI o i j | _, _ => none
theorem oc (hK : X.K = S.K) (hu : X.A.units + 64 < cLine) (op : COp) : OpR X (compareOp op.py) (r2M S (cmpM op)) := by
  rintro pins s σ H x y v u Q I rx ry ⟨ι, m, E, d, e, M, rd, re, p⟩
  obtain ⟨c, hc, q⟩ := PostG.opt M p
  obtain ⟨b, hb, rfl⟩ := map_bl hc
  have q := q _ (.bl b)
  have two : ∀ (o : COp), (∀ i j, OpR X (compareOp o.py) (fun x y H Q => x = .int i ∧ y = .int j ∧ ∃ b, cmpI o i j = some b ∧ Q (.bl b) H)) → cmpD o d e = some b → wpAny (model X.prog X.w) X.A (compareOp o.py v u) (EP X pins σ Q) X.xe s := fun o ho hb => by
    cases rd with
    | int i => cases re with
      | int j => exact ho i j pins s σ H _ _ v u Q I rx ry ⟨rfl, rfl, b, hb, q⟩
      | _ => cases hb
    | _ => cases re <;> cases hb
  cases op with
  | eq =>
    rw [cmp_eq] at hb
    exact eq_any hK hu false pins s σ H x y v u Q I rx ry ⟨ι, m, d, e, b, M, rd, re, hb, q⟩
  | ne =>
    rw [cmp_ne] at hb
    obtain ⟨b', h1, h2⟩ := Option.map_eq_some_iff.mp hb
    refine eq_any hK hu true pins s σ H x y v u Q I rx ry ⟨ι, m, d, e, b', M, rd, re, h1, ?_⟩
    show Q (.bl (!b')) H
    rw [h2]
    exact q
  | lt => exact two .lt (fun i j => fun pins s σ H x y v u Q I rx ry ⟨h1, h2, b, h3, q⟩ => op_lt pins s σ H x y v u Q I rx ry ⟨i, j, h1, h2, by cases h3; exact q⟩) hb
  | le => exact two .le (fun i j => fun pins s σ H x y v u Q I rx ry ⟨h1, h2, b, h3, q⟩ => op_le pins s σ H x y v u Q I rx ry ⟨i, j, h1, h2, by cases h3; exact q⟩) hb
  | gt => exact two .gt (fun i j => fun pins s σ H x y v u Q I rx ry ⟨h1, h2, b, h3, q⟩ => op_gt pins s σ H x y v u Q I rx ry ⟨i, j, h1, h2, by cases h3; exact q⟩) hb
  | ge => exact two .ge (fun i j => fun pins s σ H x y v u Q I rx ry ⟨h1, h2, b, h3, q⟩ => op_ge pins s σ H x y v u Q I rx ry ⟨i, j, h1, h2, by cases h3; exact q⟩) hb
  | is =>
    cases re with
    | non =>
      have hb := isN_ok rd hb
      exact op_isN pins s σ H x _ v u Q I rx ry ⟨rfl, by rw [hb]; exact q⟩
    | bl y => cases rd with
      | bl z =>
        cases hb
        exact op_is_bl pins s σ H _ _ v u Q I rx ry ⟨z, y, rfl, rfl, by rw [show decide (z = y) = (z == y) from (Bool.beq_eq_decide_eq z y).symm]; exact q⟩
      | _ => cases hb
    | _ => cases hb
  | isnot =>
    cases re with
    | non =>
      obtain ⟨b', h1, h2⟩ := Option.map_eq_some_iff.mp hb
      have h1 := isN_ok rd h1
      exact op_notN pins s σ H x _ v u Q I rx ry ⟨rfl, by rw [h1, h2]; exact q⟩
    | bl y => cases rd with
      | bl z =>
        cases hb
        exact op_isnot_bl pins s σ H _ _ v u Q I rx ry ⟨z, y, rfl, rfl, by rw [show decide (z = y) = (z == y) from (Bool.beq_eq_decide_eq z y).symm]; exact q⟩
      | _ => cases hb
    | _ => cases hb
  | in_ =>
    have hb : (match seqOf m e with | some ds => guardO (flatD d && ds.all flatD) (ds.any fun y => eqF y d) | none => none) = some b := hb
    cases e1 : seqOf m e with
    | none => rw [e1] at hb; cases hb
    | some ds =>
      rw [e1] at hb
      obtain ⟨h1, h2⟩ := guardO_some hb
      rw [Bool.and_eq_true] at h1
      obtain ⟨a, vs, rfl, hs, r⟩ := M.seq e1 re
      refine op_in_seq pins s σ H x _ v u Q I rx ry ⟨a, vs, rfl, by rw [hK]; exact hs, flat_ok rd h1.1, flats_ok r h1.2, ?_⟩
      show Q (.bl (inV x vs)) H
      rw [← any_ok rd h1.1 r h1.2, h2]
      exact q
  | notin =>
    have hb : (match seqOf m e with | some ds => guardO (flatD d && ds.all flatD) (!ds.any fun y => eqF y d) | none => none) = some b := hb
    cases e1 : seqOf m e with
    | none => rw [e1] at hb; cases hb
    | some ds =>
      rw [e1] at hb
      obtain ⟨h1, h2⟩ := guardO_some hb
      rw [Bool.and_eq_true] at h1
      obtain ⟨a, vs, rfl, hs, r⟩ := M.seq e1 re
      refine op_notIn_seq pins s σ H x _ v u Q I rx ry ⟨a, vs, rfl, by rw [hK]; exact hs, flat_ok rd h1.1, flats_ok r h1.2, ?_⟩
      show Q (.bl (!inV x vs)) H
      rw [← any_ok rd h1.1 r h1.2, h2]
      exact q
/-! ### items and slices -/
theorem ixr (hK : X.K = S.K) : IxR X (r2M S ixF) := by
  rintro value slice pins s σ H x y v u Q I rx ry ⟨ι, m, E, d, e, M, rd, re, p⟩ hs
  cases re with
  | int i =>
    have p : PostG S ι m H E (match seqOf m d with | some ds => opt (L2.atI ds i) m | none => .bad) _ := p
    cases e1 : seqOf m d with
    | none => rw [e1] at p; exact p.elim
    | some ds =>
      rw [e1] at p
      obtain ⟨c, hc, q⟩ := PostG.opt M p
      obtain ⟨a, vs, rfl, h, r⟩ := M.seq e1 rd
      obtain ⟨z, hz, rz⟩ := r.atI hc
      rcases h with h | h
      · exact ix_list value slice pins s σ H _ _ v u Q I rx ry ⟨a, vs, i, z, rfl, rfl, by rw [hK]; exact h, hz, q _ rz⟩ hs
      · exact ix_tup value slice pins s σ H _ _ v u Q I rx ry ⟨a, vs, i, z, rfl, rfl, by rw [hK]; exact h, hz, q _ rz⟩ hs
  | _ => exact p.elim
def rsM (S : Sta) (f : D → Option Int → Option Int → MV D) : V → Option Int → Option Int → Hp → VK → Prop := fun x lo hi H Q => ∃ ι m E d, RepM S ι H m ∧ RepV S ι m.nx H d x ∧ PostG S ι m H E (f d lo hi m) fun c ι' m' H' => ∀ v, RepV S ι' m'.nx H' c v → Q v H'
theorem cut_ok {ds : List D} {vs : List V} (r : RepVs S ι nx H ds vs) (lo hi : Option Int) : RepVs S ι nx H (cutD ds lo hi) (cutV vs lo hi) := by
  unfold cutD cutV
  rw [r.len]
  exact (r.drop _).take _
theorem sIx_whole {vs : List V} {lo hi : Option Int} (h : HT.sIx vs.length 0 lo = 0 ∧ HT.sIx vs.length vs.length hi = vs.length) : cutV vs lo hi = vs := by
  unfold cutV
  rw [h.1, h.2]
  simp
theorem RepVs.same {ds es : List D} {vs : List V} (r : RepVs S ι nx H ds vs) (q : RepVs S ι nx H es vs) (k : RepV S ι nx H (.tup es) v) : RepVs S ι nx H es vs := q
theorem slr (hK : X.K = S.K) : SlR X (rsM S sliceF) := by
  rintro pins s σ H x v vl vu lo hi sl Q I rx hs pl pu ⟨ι, m, E, d, M, rd, p⟩
  cases rd with
  | @tup a vs ds h r =>
    refine sl_tupA pins s σ H _ v vl vu lo hi sl Q I rx hs pl pu ⟨a, vs, rfl, by rw [hK]; exact h, fun hw => ?_, fun _ t ht => ?_⟩
    · have q : ∀ v, RepV S ι m.nx H (.tup (cutD ds lo hi)) v → Q v H := PostG.ok M p
      refine q _ (.tup h ?_)
      have := cut_ok r lo hi
      rw [sIx_whole hw] at this
      exact this
    · have T := Step.laid M ht (u := .tup (cutV vs lo hi))
      have q : ∀ v, RepV S ι m.nx (upd H t (.tup (cutV vs lo hi))) (.tup (cutD ds lo hi)) v → Q v (upd H t (.tup (cutV vs lo hi))) := PostG.ok T.mem (PostG.step T p)
      exact q _ (new_tup M ht (cut_ok r lo hi))
  | @ref n hn =>
    have p : PostG S ι m H E (match m.lst n with | some ds => newL (cutD ds lo hi) m | none => .bad) _ := p
    cases e1 : m.lst n with
    | none => rw [e1] at p; exact p.elim
    | some ds =>
      rw [e1] at p
      obtain ⟨vs, a, b⟩ := M.lstL e1
      obtain ⟨hz, q⟩ := PostG.newL M p (cut_ok b lo hi)
      refine sl_list pins s σ H _ v vl vu lo hi sl Q I rx hs pl pu ⟨_, vs, rfl, by rw [hK]; exact a, fun t ht => ?_⟩
      obtain ⟨_, _, q1, q2, _⟩ := q t ht
      exact q1 _ q2
  | _ => exact p.elim
/-! ### built-in functions -/
theorem RepVs.one {d : D} {xs : List V} (r : RepVs S ι nx H [d] xs) : ∃ x, xs = [x] ∧ RepV S ι nx H d x := by
  cases r with
  | cons h q => cases q; exact ⟨_, rfl, h⟩
theorem RepVs.two {d e : D} {xs : List V} (r : RepVs S ι nx H [d, e] xs) : ∃ x y, xs = [x, y] ∧ RepV S ι nx H d x ∧ RepV S ι nx H e y := by
  cases r with
  | cons h q => cases q with
    | cons g z => cases z; exact ⟨_, _, rfl, h, g⟩
theorem kit_all (u t : Ty) : kitB u.nm t.nm = some (isaT u t) := by cases u <;> cases t <;> decide +kernel
theorem bools_ok : ∀ {ds : List D} {bs : List Bool} {vs : List V}, boolsOf ds = some bs → RepVs S ι nx H ds vs → vs = bs.map V.bl
  | [], _, _, h, r => by cases h; cases r; rfl
  | d :: ds, bs, _, h, r => by
    cases r with
    | cons g r =>
      cases g with
      | bl b =>
        have h : (match boolsOf ds with | some bs => some (b :: bs) | none => none) = some bs := h
        cases e : boolsOf ds with
        | none => rw [e] at h; cases h
        | some bs' => rw [e] at h; cases h; rw [bools_ok e r] <;> rfl
      | _ => cases h
theorem ints_ok : ∀ {ds : List D} {bs : List Int} {vs : List V}, intsOf ds = some bs → RepVs S ι nx H ds vs → vs = bs.map V.int
  | [], _, _, h, r => by cases h; cases r; rfl
  | d :: ds, bs, _, h, r => by
    cases r with
    | cons g r =>
      cases g with
      | int b =>
        have h : (match intsOf ds with | some bs => some (b :: bs) | none => none) = some bs := h
        cases e : intsOf ds with
        | none => rw [e] at h; cases h
        | some bs' => rw [e] at h; cases h; rw [ints_ok e r] <;> rfl
      | _ => cases h
theorem RepVs.pairs : ∀ {ds : List D} {vs : List V}, RepVs S ι nx H ds vs → ∃ P : List (D × V), P.map (fun q => q.1) = ds ∧ P.map (fun q => q.2) = vs ∧ ∀ q ∈ P, RepV S ι nx H q.1 q.2
  | _, _, .nil => ⟨[], rfl, rfl, fun q h => by cases h⟩
  | _, _, .cons (d := d) (v := v) h r => by
    obtain ⟨P, rfl, rfl, e⟩ := RepVs.pairs r
    exact ⟨(d, v) :: P, rfl, rfl, fun q hq => by
      rcases List.mem_cons.mp hq with rfl | hq
      · exact h
      · exact e q hq⟩
theorem RepVs.ofPairs : ∀ P : List (D × V), (∀ q ∈ P, RepV S ι nx H q.1 q.2) → RepVs S ι nx H (P.map fun q => q.1) (P.map fun q => q.2)
  | [], _ => .nil
  | q :: P, h => .cons (h q (List.mem_cons_self ..)) (RepVs.ofPairs P fun r hr => h r (List.mem_cons_of_mem _ hr))
theorem omap_mem {α β : Type} {f : α → Option β} : ∀ {l : List α} {r : List β}, omap f l = some r → ∀ x ∈ l, ∃ y, f x = some y
  | [], _, _, x, hx => by cases hx
  | a :: l, r, h, x, hx => by
    have h : (match f a with | some b => (match omap f l with | some bs => some (b :: bs) | none => none) | none => none) = some r := h
    cases e : f a with
    | none => rw [e] at h; cases h
    | some b =>
      rw [e] at h
      cases e2 : omap f l with
      | none => rw [e2] at h; cases h
      | some bs =>
        rcases List.mem_cons.mp hx with rfl | hx
        · exact ⟨b, e⟩
        · exact omap_mem e2 x hx
theorem tupN_ok {d : D} {v : V} (h : ∃ ns, tupN d = some ns) (r : RepV S ι nx H d v) : ∃ t, v = V.ref t ∧ SqT S.K H t ((nsD d).map V.int) ∧ nsD d ≠ [] := by
  obtain ⟨ns, h⟩ := h
  have en : nsD d = ns := by unfold nsD; rw [h]
  rw [en]
  cases r with
  | tup h' q =>
    rename_i a vs ds
    match ds, q, h with
    | [], _, h => cases h
    | e :: es, q, h =>
      have h : intsOf (e :: es) = some ns := h
      have := ints_ok h q
      subst this
      refine ⟨_, rfl, h', ?_⟩
      rintro rfl
      cases q
  | _ => cases h
theorem tyOf_ok (M : RepM S ι H m) {d : D} {v : V} {t : Ty} (r : RepV S ι m.nx H d v) (h : tyOf m d = some t) : TyX S.K H v (.type t.nm) := by
  cases r with
  | non => cases h; exact .base .non
  | bl b => cases h; exact .base (.bl b)
  | int b => cases h; exact .base (.int b)
  | str b => cases h; exact .base (.str b)
  | fn k => cases h
  | ty k => cases h
  | emp h' => cases h; exact .base (.dK h')
  | opq _ => cases h
  | cls _ => cases h
  | tup h' q =>
    cases h
    rcases h' with (h' | ⟨o, h'⟩) | ⟨o, its, n, h1, h2, _⟩
    · exact .base (.tup h')
    · exact .fTuple h'
    · exact .kTuple h1 h2
  | @ref n hn =>
    have h : (match m.lst n with | some _ => some Ty.list | none => none) = some t := h
    cases e : m.lst n with
    | none => rw [e] at h; cases h
    | some ds =>
      rw [e] at h
      cases h
      obtain ⟨vs, a, _⟩ := M.lstL e
      rcases a with (a | ⟨o, a⟩) | ⟨o, its, n, h1, h2, _⟩
      · exact .base (.lst a)
      · exact .base (.frz a)
      · exact .kList h1 h2
theorem repr_ok (hg : X.A.guards = some []) (hu : X.A.units + 100 < cLine) : CallR X (.builtin "repr") (fun xs H Q => ∃ x p, xs = [x] ∧ Dp X.K H x p ∧ SeqAt.shaped p = true ∧ p.showable = true ∧ p.shown.length ≤ sizeLine ∧ Q (.str p.shown) H) := by
  rintro pins s σ H xs us Q I r ⟨x, p, rfl, hp, sh, hs, hz, q⟩
  obtain ⟨u, rfl, rx⟩ := vals1 r
  have cl := SeqAt.canLay_of_shaped sh
  have dp := SeqAt.depth_of_shaped sh
  cases hp with
  | non => cases rx; exact PySem.P.repr_of_none ⟨.str _, H, I.tok _, ⟨_, rfl⟩, q⟩
  | bl b => cases rx; exact PySem.P.repr_of_bool ⟨.str _, H, I.tok _, ⟨_, rfl⟩, q⟩
  | int i =>
    obtain ⟨t, rfl⟩ := rx
    exact PySem.P.repr_of_int (of_decide_eq_true (by simpa [PyData.showable] using hs)) ⟨.str _, H, I.tok _, ⟨_, rfl⟩, q⟩
  | str z =>
    obtain ⟨t, rfl⟩ := rx
    exact PySem.P.repr_of_str ⟨.str _, H, I.tok _, ⟨_, rfl⟩, q⟩ hz
  | lst a b =>
    cases rx
    obtain ⟨as, rd⟩ := Dp.reads I _ _ _ (.lst a b) rfl
    exact repr_of_reads' rd hs (PyData.noDict_hsm (PyData.hasDict_of_canLay _ cl)) hg (by omega) (fun b o e => e) (fun h' u tk k => ⟨.str _, H, I.kept k, ⟨_, rfl⟩, q⟩) hz
  | tup a b =>
    cases rx
    obtain ⟨as, rd⟩ := Dp.reads I _ _ _ (.tup a b) rfl
    exact repr_of_reads' rd hs (PyData.noDict_hsm (PyData.hasDict_of_canLay _ cl)) hg (by omega) (fun b o e => e) (fun h' u tk k => ⟨.str _, H, I.kept k, ⟨_, rfl⟩, q⟩) hz
theorem leastI_some : ∀ {is : List Int} {i : Int}, leastI is = some i → i ∈ is ∧ ∀ j ∈ is, i ≤ j
  | [], i, h => by cases h
  | a :: r, i, h => by
    unfold leastI at h
    cases e : leastI r with
    | none =>
      rw [e] at h
      cases h
      cases r with
      | nil => exact ⟨List.mem_cons_self .., fun j hj => by rw [List.mem_singleton.mp hj]; exact Int.le_refl _⟩
      | cons b r =>
        unfold leastI at e
        split at e
        · cases e
        · split at e <;> cases e
    | some j =>
      rw [e] at h
      have h : (match decide (j < a) with | true => some j | false => some a) = some i := h
      obtain ⟨h1, h2⟩ := leastI_some e
      by_cases hj : j < a
      · rw [decide_eq_true hj] at h
        cases h
        exact ⟨List.mem_cons_of_mem _ h1, fun k hk => by
          rcases List.mem_cons.mp hk with rfl | hk
          · omega
          · exact h2 k hk⟩
      · rw [decide_eq_false hj] at h
        cases h
        exact ⟨List.mem_cons_self .., fun k hk => by
          rcases List.mem_cons.mp hk with rfl | hk
          · omega
          · have := h2 k hk; omega⟩
theorem mostI_some : ∀ {is : List Int} {i : Int}, mostI is = some i → i ∈ is ∧ ∀ j ∈ is, j ≤ i
  | [], i, h => by cases h
  | a :: r, i, h => by
    unfold mostI at h
    cases e : mostI r with
    | none =>
      rw [e] at h
      cases h
      cases r with
      | nil => exact ⟨List.mem_cons_self .., fun j hj => by rw [List.mem_singleton.mp hj]; exact Int.le_refl _⟩
      | cons b r =>
        unfold mostI at e
        split at e
        · cases e
        · split at e <;> cases e
    | some j =>
      rw [e] at h
      have h : (match decide (a < j) with | true => some j | false => some a) = some i := h
      obtain ⟨h1, h2⟩ := mostI_some e
      by_cases hj : a < j
      · rw [decide_eq_true hj] at h
        cases h
        exact ⟨List.mem_cons_of_mem _ h1, fun k hk => by
          rcases List.mem_cons.mp hk with rfl | hk
          · omega
          · exact h2 k hk⟩
      · rw [decide_eq_false hj] at h
        cases h
        exact ⟨List.mem_cons_self .., fun k hk => by
          rcases List.mem_cons.mp hk with rfl | hk
          · omega
          · have := h2 k hk; omega⟩
/-- the object of a built-in function -/
def Blt.obj : Blt → Value
  | .len => .builtin "len" | .abs => .builtin "abs" | .max2 => .builtin "max" | .min2 => .builtin "min" | .int => .type "int" | .isinst => .builtin "isinstance" | .all => .builtin "all" | .any => .builtin "any"
  | .list => .type "list" | .tuple => .type "tuple" | .sum => .builtin "sum" | .repr => .builtin "repr" | .sorted => .builtin "sorted" | .min1 => .builtin "min" | .max1 => .builtin "max"
theorem one_ok {β : Type} {E : XK} {f : D → Out β} {g : β → (Nat → Addr) → Mem → Hp → Prop} {ds : List D} {xs : List V} (r : RepVs S ι m.nx H ds xs) (p : PostG S ι m H E (one ds f) g) : ∃ d x, xs = [x] ∧ RepV S ι m.nx H d x ∧ PostG S ι m H E (f d) g := by
  match ds, r, p with
  | [d], r, p => obtain ⟨x, e, q⟩ := r.one; exact ⟨d, x, e, q, p⟩
  | [], _, p => exact False.elim p
  | _ :: _ :: _, _, p => exact False.elim p
theorem two_ok {β : Type} {E : XK} {f : D → D → Out β} {g : β → (Nat → Addr) → Mem → Hp → Prop} {ds : List D} {xs : List V} (r : RepVs S ι m.nx H ds xs) (p : PostG S ι m H E (two ds f) g) : ∃ d e x y, xs = [x, y] ∧ RepV S ι m.nx H d x ∧ RepV S ι m.nx H e y ∧ PostG S ι m H E (f d e) g := by
  match ds, r, p with
  | [d, e], r, p => obtain ⟨x, y, z, q, w⟩ := r.two; exact ⟨d, e, x, y, z, q, w, p⟩
  | [], _, p => exact False.elim p
  | [_], _, p => exact False.elim p
  | _ :: _ :: _ :: _, _, p => exact False.elim p
theorem int_ok {β : Type} {E : XK} {f : Int → Out β} {g : β → (Nat → Addr) → Mem → Hp → Prop} {d : D} {x : V} (r : RepV S ι m.nx H d x) (p : PostG S ι m H E (onInt d f) g) : ∃ i, x = .int i ∧ PostG S ι m H E (f i) g := by
  cases r with
  | int i => exact ⟨i, rfl, p⟩
  | _ => exact False.elim p
theorem seq_ok {β : Type} {E : XK} {f : List D → Out β} {g : β → (Nat → Addr) → Mem → Hp → Prop} {d : D} {x : V} (M : RepM S ι H m) (r : RepV S ι m.nx H d x) (p : PostG S ι m H E (onSeq m d f) g) : ∃ ds a vs, x = .ref a ∧ (SqL S.K H a vs ∨ SqT S.K H a vs) ∧ RepVs S ι m.nx H ds vs ∧ PostG S ι m H E (f ds) g := by
  unfold onSeq at p
  cases e1 : seqOf m d with
  | none => rw [e1] at p; exact False.elim p
  | some ds => rw [e1] at p; obtain ⟨a, vs, e, b, c⟩ := M.seq e1 r; exact ⟨ds, a, vs, e, b, c, p⟩
theorem lst_ok {β : Type} {E : XK} {f : List D → Out β} {g : β → (Nat → Addr) → Mem → Hp → Prop} {d : D} {x : V} (M : RepM S ι H m) (r : RepV S ι m.nx H d x) (p : PostG S ι m H E (onLst m d f) g) : ∃ ds a vs, x = .ref a ∧ SqL S.K H a vs ∧ RepVs S ι m.nx H ds vs ∧ PostG S ι m H E (f ds) g := by
  cases r with
  | @ref n hn =>
    have p : PostG S ι m H E (match m.lst n with | some xs => f xs | none => .bad) g := p
    cases e1 : m.lst n with
    | none => rw [e1] at p; exact False.elim p
    | some ds => rw [e1] at p; obtain ⟨vs, b, c⟩ := M.lstL e1; exact ⟨ds, _, vs, rfl, b, c, p⟩
  | _ => exact False.elim p
theorem some_ok {β γ : Type} {E : XK} {f : γ → Out β} {g : β → (Nat → Addr) → Mem → Hp → Prop} {o : Option γ} (p : PostG S ι m H E (onSome o f) g) : ∃ x, o = some x ∧ PostG S ι m H E (f x) g := by
  cases o with
  | none => exact False.elim p
  | some x => exact ⟨x, rfl, p⟩
theorem cbl (hK : X.K = S.K) (hc : X.calm = true) (hg : X.A.guards = some []) (hu : X.A.units + 100 < cLine) (b : Blt) : CallR X b.obj (rcM S (bltF b)) := by
  rintro pins s σ H xs us Q I r ⟨ι, m, E, ds, M, rv, p⟩
  cases b with
  | len =>
    obtain ⟨d, x, rfl, rd, p⟩ := one_ok rv p
    by_cases hs : ∃ z, d = .str z
    · obtain ⟨z, rfl⟩ := hs
      cases rd
      obtain ⟨c, hc', q⟩ := PostG.opt M p
      obtain ⟨h1, rfl⟩ := guardO_some hc'
      exact call_len pins s σ H _ us Q I r ⟨_, _, rfl, ⟨le_line (Nat.le_of_ble_eq_true h1), rfl⟩, q _ (.int _)⟩
    · have p : PostG S ι m H E (onSeq m d fun xs => .ok (D.int xs.length) m) fun c ι' m' H' => ∀ v, RepV S ι' m'.nx H' c v → Q v H' := by
        cases d <;> first | exact p | exact absurd ⟨_, rfl⟩ hs
      obtain ⟨es, a, vs, rfl, h1, h2, p⟩ := seq_ok M rd p
      refine call_len_seq pins s σ H _ us Q I r ⟨a, vs, rfl, by rw [hK]; exact h1, ?_⟩
      rw [← h2.len]
      exact PostG.ok M p _ (.int _)
  | abs =>
    obtain ⟨d, x, rfl, rd, p⟩ := one_ok rv p
    obtain ⟨i, rfl, p⟩ := int_ok rd p
    exact call_abs pins s σ H _ us Q I r ⟨i, rfl, PostG.ok M p _ (.int _)⟩
  | max2 =>
    obtain ⟨d, e, x, y, rfl, rd, re, p⟩ := two_ok rv p
    obtain ⟨i, rfl, p⟩ := int_ok rd p
    obtain ⟨j, rfl, p⟩ := int_ok re p
    exact call_max2 hc pins s σ H _ us Q I r ⟨i, j, rfl, PostG.ok M p _ (.int _)⟩
  | min2 =>
    obtain ⟨d, e, x, y, rfl, rd, re, p⟩ := two_ok rv p
    obtain ⟨i, rfl, p⟩ := int_ok rd p
    obtain ⟨j, rfl, p⟩ := int_ok re p
    exact call_min2 hc pins s σ H _ us Q I r ⟨i, j, rfl, PostG.ok M p _ (.int _)⟩
  | int =>
    obtain ⟨d, x, rfl, rd, p⟩ := one_ok rv p
    cases rd with
    | int i => exact call_int1 pins s σ H _ us Q I r (.inl ⟨i, rfl, PostG.ok M p _ (.int _)⟩)
    | bl i => exact call_int1 pins s σ H _ us Q I r (.inr ⟨i, rfl, PostG.ok M p _ (.int _)⟩)
    | _ => exact False.elim p
  | isinst =>
    obtain ⟨d, e, x, y, rfl, rd, re, p⟩ := two_ok rv p
    cases re with
    | ty t =>
      obtain ⟨u, hu', p⟩ := some_ok p
      exact call_isi pins s σ H _ us Q I r ⟨x, _, _, _, _, rfl, .ty _, by rw [hK]; exact tyOf_ok M rd hu', kit_ty (kit_all u t), PostG.ok M p _ (.bl _)⟩
    | _ => exact False.elim p
  | all =>
    obtain ⟨d, x, rfl, rd, p⟩ := one_ok rv p
    obtain ⟨es, a, vs, rfl, h1, h2, p⟩ := lst_ok M rd p
    obtain ⟨bs, hb, p⟩ := some_ok p
    exact cr_all hc pins s σ H _ us Q I r ⟨_, bs, rfl, by rw [hK, ← bools_ok hb h2]; exact h1, PostG.ok M p _ (.bl _)⟩
  | any =>
    obtain ⟨d, x, rfl, rd, p⟩ := one_ok rv p
    obtain ⟨es, a, vs, rfl, h1, h2, p⟩ := lst_ok M rd p
    obtain ⟨bs, hb, p⟩ := some_ok p
    exact cr_any hc pins s σ H _ us Q I r ⟨_, bs, rfl, by rw [hK, ← bools_ok hb h2]; exact h1, PostG.ok M p _ (.bl _)⟩
  | sum =>
    obtain ⟨d, x, rfl, rd, p⟩ := one_ok rv p
    obtain ⟨es, a, vs, rfl, h1, h2, p⟩ := lst_ok M rd p
    obtain ⟨bs, hb, p⟩ := some_ok p
    exact cr_sum hc pins s σ H _ us Q I r ⟨_, bs, rfl, by rw [hK, ← ints_ok hb h2]; exact h1, PostG.ok M p _ (.int _)⟩
  | min1 =>
    obtain ⟨d, x, rfl, rd, p⟩ := one_ok rv p
    obtain ⟨es, a, vs, rfl, h1, h2, p⟩ := lst_ok M rd p
    obtain ⟨bs, hb, p⟩ := some_ok p
    obtain ⟨i, hi, p⟩ := some_ok p
    obtain ⟨m1, m2⟩ := leastI_some hi
    refine cr_min hc pins s σ H _ us Q I r ⟨_, bs, rfl, by rw [hK, ← ints_ok hb h2]; exact h1, List.length_pos_of_mem m1, fun j hj hall => ?_⟩
    rw [show j = i from Int.le_antisymm (hall i m1) (m2 j hj)]
    exact PostG.ok M p _ (.int _)
  | max1 =>
    obtain ⟨d, x, rfl, rd, p⟩ := one_ok rv p
    obtain ⟨es, a, vs, rfl, h1, h2, p⟩ := lst_ok M rd p
    obtain ⟨bs, hb, p⟩ := some_ok p
    obtain ⟨i, hi, p⟩ := some_ok p
    obtain ⟨m1, m2⟩ := mostI_some hi
    refine cr_max hc pins s σ H _ us Q I r ⟨_, bs, rfl, by rw [hK, ← ints_ok hb h2]; exact h1, List.length_pos_of_mem m1, fun j hj hall => ?_⟩
    rw [show j = i from Int.le_antisymm (m2 j hj) (hall i m1)]
    exact PostG.ok M p _ (.int _)
  | list =>
    obtain ⟨d, x, rfl, rd, p⟩ := one_ok rv p
    obtain ⟨es, a, vs, rfl, h1, h2, p⟩ := seq_ok M rd p
    obtain ⟨hz, q⟩ := PostG.newL M p h2
    refine call_list_of pins s σ H _ us Q I r ⟨a, vs, rfl, by rw [hK]; exact h1, fun t ht => ?_⟩
    obtain ⟨_, _, q1, q2, _⟩ := q t ht
    exact q1 _ q2
  | sorted =>
    obtain ⟨d, x, rfl, rd, p⟩ := one_ok rv p
    obtain ⟨es, a, vs, rfl, h1, h2, p⟩ := lst_ok M rd p
    obtain ⟨nss, hn, p⟩ := some_ok p
    obtain ⟨P, rfl, rfl, hP⟩ := RepVs.pairs h2
    have hT : ∀ q ∈ P, ∃ t, q.2 = V.ref t ∧ SqT S.K H t ((nsD q.1).map V.int) ∧ nsD q.1 ≠ [] := fun q hq => tupN_ok (omap_mem hn _ (List.mem_map.mpr ⟨q, hq, rfl⟩)) (hP q hq)
    refine cr_sortedN pins s σ H _ us Q I r ⟨a, _, rfl, by rw [hK]; exact h1, fun x hx => ?_, fun k t hk ht => ?_⟩
    · obtain ⟨q, hq, rfl⟩ := List.mem_map.mp hx
      obtain ⟨t, e, ht, hn⟩ := hT q hq
      exact ⟨_, t, e, by rw [hK]; exact ht, hn⟩
    · have kq : ∀ q ∈ P, k q.2 = nsD q.1 := fun q hq => by
        obtain ⟨t, e, ht, _⟩ := hT q hq
        exact hk _ (List.mem_map.mpr ⟨q, hq, rfl⟩) _ t e (by rw [hK]; exact ht)
      have s1 := SrtO.sortS_map (lu := fun x y => SrtO.lexI (nsD x) (nsD y)) (lt := fun p q => SrtO.lexI (nsD p.1) (nsD q.1)) (fun q : D × V => q.1) P fun _ _ _ _ => rfl
      have s2 := SrtO.sortS_map (lu := ltN k) (lt := fun p q => SrtO.lexI (nsD p.1) (nsD q.1)) (fun q : D × V => q.2) P fun p hp q hq => by
        show SrtO.lexI (k p.2) (k q.2) = _
        rw [kq p hp, kq q hq]
      rw [s1] at p
      rw [s2] at ⊢
      have h3 := RepVs.ofPairs (SrtO.sortS (fun p q : D × V => SrtO.lexI (nsD p.1) (nsD q.1)) P) fun q hq => hP q ((SrtO.sortS_perm _ P).mem_iff.mp hq)
      obtain ⟨hz, q⟩ := PostG.newL M p h3
      obtain ⟨_, _, q1, q2, _⟩ := q t ht
      exact q1 _ q2
  | tuple =>
    obtain ⟨d, x, rfl, rd, p⟩ := one_ok rv p
    obtain ⟨es, a, vs, rfl, h1, h2, p⟩ := seq_ok M rd p
    refine call_tuple_of pins s σ H _ us Q I r ⟨a, vs, rfl, ?_⟩
    rcases h1 with h1 | h1
    · refine .inl ⟨by rw [hK]; exact h1, fun t ht => ?_⟩
      have T := Step.laid M ht (u := .tup vs)
      exact PostG.ok T.mem (PostG.step T p) _ (new_tup M ht h2)
    · exact .inr ⟨by rw [hK]; exact h1, PostG.ok M p _ (.tup h1 h2)⟩
  | repr =>
    obtain ⟨d, x, rfl, rd, p⟩ := one_ok rv p
    obtain ⟨z, hz, p⟩ := some_ok p
    obtain ⟨c, hc', q⟩ := PostG.opt M p
    obtain ⟨e2, rfl⟩ := guardO_some hc'
    rw [Bool.and_eq_true] at e2
    obtain ⟨h1, h2⟩ := toPy_sh M hz rd
    exact repr_ok hg hu pins s σ H _ us Q I r ⟨x, z, rfl, by rw [hK]; exact h1, h2, e2.1, le_line (Nat.le_of_ble_eq_true e2.2), q _ (.str _)⟩
end
end Ev

set_option Elab.async false
set_option linter.all false
set_option maxRecDepth 100000
set_option maxHeartbeats 4000000
namespace Ev
open PySem PySem.Spec PyProof.Rows L2

/-! ## from the text to the language -/
theorem vis_ok {sc : Scope} {x : Str} (h : visB sc x = true) : Vis sc x := by
  unfold visB at h
  split at h
  · rename_i e
    exact .inl e
  · rename_i e
    exact .inr (.inl e)
  · rename_i e
    exact .inr (.inr e)
  · cases h
theorem glB_ok {X : Cx} {x : Str} (h : glB X.env.scope x = true) : Gl X x := by
  unfold glB at h
  split at h
  · rename_i e
    exact e
  · cases h
def Blt.nm : Blt → Str
  | .len => "len" | .abs => "abs" | .max2 => "max" | .min2 => "min" | .int => "int" | .isinst => "isinstance" | .all => "all" | .any => "any"
  | .list => "list" | .tuple => "tuple" | .sum => "sum" | .repr => "repr" | .sorted => "sorted" | .min1 => "min" | .max1 => "max"
def Blt.ar : Blt → Nat
  | .max2 | .min2 | .isinst => 2
  | _ => 1
def bltAll : List Blt := [.len, .abs, .max2, .min2, .int, .isinst, .all, .any, .list, .tuple, .sum, .repr, .sorted, .min1, .max1]
def bltOf (f : Str) (k : Nat) : Option Blt := bltAll.find? fun b => decide (f = b.nm) && Nat.beq b.ar k
theorem bltOf_ok {f : Str} {k : Nat} {b : Blt} (h : bltOf f k = some b) : f = b.nm := by
  have := List.find?_some h
  rw [Bool.and_eq_true, decide_eq_true_eq] at this
  exact this.1
def tyAll : List Ty := [.int, .bool, .str, .tuple, .list, .dict]
def tyOfN (f : Str) : Option Ty := tyAll.find? fun t => decide (f = Str.ofString t.nm)
def opOf : Operator → Option BOp
  | .Add => some .add | .Sub => some .sub | .Mult => some .mul | .FloorDiv => some .fdiv | .Mod => some .mod | .Pow => some .pow
  | _ => none
theorem opOf_ok {o : Operator} {b : BOp} (h : opOf o = some b) : o = b.py := by
  cases o <;> cases h <;> rfl
def copOf : CmpOp → COp
  | .Eq => .eq | .NotEq => .ne | .Lt => .lt | .LtE => .le | .Gt => .gt | .GtE => .ge | .Is => .is | .IsNot => .isnot | .In => .in_ | .NotIn => .notin
theorem copOf_ok (o : CmpOp) : o = (copOf o).py := by cases o <;> rfl
def trL (tr : Expr → Option E) : List Expr → Option E
  | [] => some .nil
  | e :: es => onB (plainX e) ((tr e).bind fun a => (trL tr es).bind fun b => some (.cons a b))
/-- and, or of several -/
def trB (tr : Expr → Option E) (f : E → E → E) : List Expr → Option E
  | [] => none
  | e :: es => (tr e).bind fun a => match es with
    | [] => some a
    | _ :: _ => (trB tr f es).bind fun b => some (f a b)
def trTs (tt : Expr → Option E) : List Expr → Option E
  | [] => some .tnil
  | e :: es => onB (plainX e) ((tt e).bind fun a => (trTs tt es).bind fun b => some (.tcons a b))
def isSlice : Expr → Bool
  | .Slice .. => true
  | _ => false
def isSet : Expr → Bool
  | .Set .. => true
  | _ => false
def trT (tr : Expr → Option E) (fb : Str → Bool) (ff : Str → List (Nat × Nat)) (N : List Str) (sc : Scope) : Nat → Expr → Option E
  | 0, _ => none
  | n + 1, e => match e with
    | .Name x _ => (match sc.names.lookup x with
      | some .local => (ixOf x N 0).bind fun i => some (.tnm i)
      | some .cell => onB (fb x) ((ixOf x N 0).bind fun i => some (.tnm i))
      | _ => none)
    | .Tuple es _ _ => (trTs (trT tr fb ff N sc n) es).bind fun t => some (.ttup t)
    | .Subscript o i _ => onB (!isSlice i) ((tr o).bind fun a => (tr i).bind fun b => some (.tsub a b))
    | .Attribute o f _ => onB (!(ff f).isEmpty) ((tr o).bind fun a => some (.tfld (ff f) a))
    | _ => none
/-- the slots of a target -/
def E.slots : E → List Nat
  | .tnm i => [i]
  | .tcons t ts => t.slots ++ ts.slots
  | .ttup t => t.slots
  | _ => []
def E.val : E → Bool
  | .rng1 _ | .rng2 _ _ | .rng3 _ _ _ | .enumE _ | .zipE _ _ | .tnm _ | .tnil | .tcons _ _ | .ttup _ | .tsub _ _ | .tfld _ _ => false
  | _ => true
def trV (tr : Expr → Option E) (e : Expr) : Option E := onB (!isSet e) ((tr e).bind fun t => onB t.val (some t))
def isTupX : Expr → Bool
  | .Tuple .. => true
  | _ => false
/-- what is walked (tup: by a target of several names) -/
def trI (tr : Expr → Option E) (G : Glo) (sc : Scope) (tup : Bool) (e : Expr) : Option E := match e with
  | .Call (.Name f _) as [] _ => (match decide (f = ("range" : Str)) with
    | true => onB (glB sc "range" && G.b "range") (match as with
      | [a] => onB (plainX a) ((tr a).bind fun x => some (.rng1 x))
      | [a, b] => onB (plainX a && plainX b) ((tr a).bind fun x => (tr b).bind fun y => some (.rng2 x y))
      | [a, b, c] => onB (plainX a && plainX b && plainX c) ((tr a).bind fun x => (tr b).bind fun y => (tr c).bind fun z => some (.rng3 x y z))
      | _ => none)
    | false => (match decide (f = ("enumerate" : Str)) with
      | true => onB (tup && glB sc "enumerate" && G.b "enumerate") (match as with
        | [a] => onB (plainX a) ((tr a).bind fun x => some (.enumE x))
        | _ => none)
      | false => (match decide (f = ("zip" : Str)) with
        | true => onB (tup && glB sc "zip" && G.b "zip") (match as with
          | [a, b] => onB (plainX a && plainX b) ((tr a).bind fun x => (tr b).bind fun y => some (.zipE x y))
          | _ => none)
        | false => trV tr e)))
  | e => trV tr e
def ownOf (N : List Str) : List (Str × NameKind) → List (Str × Nat)
  | [] => []
  | (x, k) :: r => match k with
    | .local => (match ixOf x N 0 with | some i => (x, i) :: ownOf N r | none => ownOf N r)
    | .cell => (match ixOf x N 0 with | some i => (x, i) :: ownOf N r | none => ownOf N r)
    | _ => ownOf N r
def trName (G : Glo) (N : List Str) (sc : Scope) (x : Str) : Option E := onB (nodun x) (match visB sc x with
  | true => (ixOf x N 0).bind fun i => some (.var i)
  | false => onB (glB sc x) (match G.g x with
    | some d => some (.const d)
    | none => onB (G.b x) ((tyOfN x).bind fun t => some (.const (.ty t)))))
def trCall (G : Glo) (N : List Str) (sc : Scope) (x : Str) (k : Nat) (a : E) : Option E := onB (nodun x) (match visB sc x with
  | true => (ixOf x N 0).bind fun i => some (.callv (.var i) a)
  | false => onB (glB sc x) (match G.g x with
    | some d => (match d with | .fn k => some (.call k a) | _ => none)
    | none => onB (G.b x && Nat.blt 0 k) ((bltOf x k).bind fun b => some (.blt b a))))
def trP (tr : Expr → Option E) : Option Expr → Option E
  | none => some .no
  | some l => (tr l).bind fun y => onB (!y.isNo) (some y)
def noPar : Arguments → Bool
  | ⟨[], [], none, [], [], none, []⟩ => true
  | _ => false
/-- no default values -/
def noDef : Arguments → Bool
  | ⟨_, _, _, _, [], _, []⟩ => true
  | _ => false
def noSup : Expr → Bool
  | .Call (.Name _ _) [] [] _ => false
  | _ => true
/-- the free names are this def's cells -/
def freeOk (sc scope : Scope) : Bool := scope.names.all fun y => !decide (y.2 = .free) || decide (sc.names.lookup y.1 = some .cell) || decide (sc.names.lookup y.1 = some .free)
def trMk (G : Glo) (sc : Scope) (x : Str) (k : Nat) (a : E) : Option E := onB (G.h && nodun x && glB sc x && Nat.blt 0 k) ((G.k.c x).bind fun q => some (.mk q.1 q.2.1 q.2.2 a))
def trE (G : Glo) (N : List Str) : Nat → Scope → Expr → Option E
  | 0, _, _ => none
  | n + 1, sc, e => match e with
    | .Constant c _ _ => (constD c).bind fun d => some (.const d)
    | .Name x _ => trName G N sc x
    | .Tuple es _ _ => onB (Nat.ble es.length 1000) ((trL (trE G N n sc) es).bind fun a => some (.tup a))
    | .List es _ => (trL (trE G N n sc) es).bind fun a => some (.lst a)
    | .Dict [] [] _ => some .emp
    | .BinOp a op b _ => (opOf op).bind fun o => (trE G N n sc a).bind fun x => (trE G N n sc b).bind fun y => some (.bin o x y)
    | .UnaryOp op a _ => (match op with
      | .USub => (trE G N n sc a).bind fun x => some (.neg x)
      | .Not => (trE G N n sc a).bind fun x => some (.bnot x)
      | _ => none)
    | .Compare a ops bs _ => (match ops, bs with
      | [o], [b] => onB (!isSet b) ((trE G N n sc a).bind fun x => (trE G N n sc b).bind fun y => some (.cmp (copOf o) x y))
      | [o, o'], [b, c] => onB (!isSet c) ((trE G N n sc a).bind fun x => (trE G N n sc b).bind fun y => (trE G N n sc c).bind fun z => some (.chain (copOf o) (copOf o') x y z))
      | [o, o', o''], [b, c, d] => onB (!isSet d) ((trE G N n sc a).bind fun x => (trE G N n sc b).bind fun y => (trE G N n sc c).bind fun z => (trE G N n sc d).bind fun w => some (.chain3 (copOf o) (copOf o') (copOf o'') x y z w))
      | _, _ => none)
    | .BoolOp op vs _ => (match op with
      | .And => trB (trE G N n sc) .band vs
      | .Or => trB (trE G N n sc) .bor vs)
    | .IfExp c a b _ => (trE G N n sc c).bind fun x => (trE G N n sc a).bind fun y => (trE G N n sc b).bind fun z => some (.ite x y z)
    | .Call f as kws cpos => (match f, kws with
      | .Name x _, [] => (match as with
        | [.Lambda ps body scope _] => onB (nodun x && glB sc x && LamX.lamSB sc scope && noPar ps) ((G.m x).bind fun hd => (trE { G with m := fun _ => none, l := false, h := false } N n scope body).bind fun b => some (.met G.xn hd.1 hd.2 b))
        | [o, .Name c cp] => (match decide (x = ("isinstance" : Str)) && !(G.k.i c).isEmpty with
          | true => onB (glB sc "isinstance" && G.b "isinstance" && glB sc c && nodun c && plainX o) ((trE G N n sc o).bind fun y => some (.isc (G.k.i c) y))
          | false => (trL (trE G N n sc) [o, .Name c cp]).bind fun a => (match (G.k.c x).isSome with
            | true => trMk G sc x 2 a
            | false => trCall G N sc x 2 a))
        | as => (trL (trE G N n sc) as).bind fun a => (match (G.k.c x).isSome with
          | true => trMk G sc x as.length a
          | false => trCall G N sc x as.length a))
      | .Attribute o f apos, [] => onB (noSup o && (apos.endLine == cpos.line) && Nat.blt as.length 30 && Nat.blt 0 as.length && !(G.k.m f).isEmpty) ((trE G N n sc o).bind fun x => (trL (trE G N n sc) as).bind fun a => some (.mcall (G.k.m f) x a))
      | _, _ => none)
    | .Attribute o f _ => onB (noSup o) ((trE G N n sc o).bind fun x => (match (G.k.f f).isEmpty with
      | false => some (.fld (G.k.f f) x)
      | true => onB (G.h && !(G.k.p f).isEmpty) (some (.fld (G.k.p f) x))))
    | .Lambda ps body scope _ => onB (G.l && freeOk sc scope && noDef ps) (some .lamv)
    | .Subscript a i _ => (trE G N n sc a).bind fun x => (match i with
      | .Slice none none (some (.UnaryOp .USub (.Constant (.int 1) _ _) _)) _ => some (.rev x)
      | .Slice lo hi none _ => (trP (trE G N n sc) lo).bind fun y => (trP (trE G N n sc) hi).bind fun z => some (.slice x y z)
      | i => onB (!isSlice i) ((trE G N n sc i).bind fun y => some (.ix x y)))
    | .ListComp elt gens scope _ => (match gens with
      | [⟨tg, iter, ifs, 0⟩] => onB (blkC N sc scope (ownOf N scope.names)) ((trI (trE G N n sc) G sc (isTupX tg) iter).bind fun it =>
          (trT (trE G N n (relS scope sc)) (fun x => scope.names.lookup x == some .cell) G.k.f N (relS scope sc) 8 tg).bind fun t =>
          onB (t.slots.all fun i => ((ownOf N scope.names).map (·.2)).contains i) ((trE G N n (relS scope sc) elt).bind fun x => (match ifs with
            | [] => some (.comp ((ownOf N scope.names).map (·.2)) t it .yes x)
            | [c] => (trE G N n (relS scope sc) c).bind fun z => some (.comp ((ownOf N scope.names).map (·.2)) t it z x)
            | _ => none)))
      | _ => none)
    | _ => none
end Ev

set_option Elab.async false
set_option linter.all false
set_option maxRecDepth 100000
set_option maxHeartbeats 4000000
namespace Ev
open PySem PySem.Spec PyProof.Rows L2

/-! ## the rules of the parts -/
section
variable {S : Sta} {G : Glo} {Fs : Fns} {n : Nat} {X : Cx} {W : WX} {a b c : Expr} {es : List Expr} {fa fb fc : Rho → MV D} {pos : Pos}
theorem GC.units (g : GC S G Fs n X W) : X.A.units + 100 < cLine := by have := g.room.un; omega
/-- an expression of a steady value -/
theorem s_const {e : Expr} {v : V} {d : D} (h : PE X e (tC v)) (r : ∀ ι nx H, RepV S ι nx H d v) : PE X e (evE S W fun _ => okk d) :=
  peI h fun σ H Q ⟨ι, ρ, m, rs, M, p⟩ => PostG.ok M p v (r _ _ _)
theorem s_var {i : Nat} {x : Str} (g : GC S G Fs n X W) (hN : X.N[i]? = some x) (hv : Vis X.env.scope x) (hd : (x == ("__debug__" : Str)) = false) (hcd : (x == ("__classdict__" : Str)) = false) : PE X (.Name x pos) (evE S W fun ρ => opt (getR ρ i)) :=
  peI (pe_var hN hv hd hcd) fun σ H Q ⟨ι, ρ, m, rs, M, p⟩ => by
    obtain ⟨d, e, q⟩ := PostG.opt M p
    obtain ⟨v, e1, r⟩ := rs.at_ i d e
    exact ⟨v, e1, q v r⟩
/-- lists of parts -/
def TupLen (f : Rho → MV D) (k : Nat) : Prop := ∀ ρ m d m', f ρ m = .ok d m' → ∃ ds, d = .tup ds ∧ ds.length = k
theorem s_nil : PA X [] (evA S W fun _ => okk (.tup [])) := paI pa_nil fun σ H Q ⟨ι, ρ, m, rs, M, p⟩ => by
  obtain ⟨ds, e, q⟩ := PostG.ok M p
  cases e
  exact q [] .nil
theorem s_cons (ha : PE X a (evE S W fa)) (hb : PA X es (evA S W fb)) (hp : plainX a = true) : PA X (a :: es) (evA S W (consM fa fb)) :=
  paI (pa_cons ha hb (star1 hp es X.env)) fun σ H Q ⟨ι, ρ, m, rs, M, p⟩ => by
    refine evE_then rs M p fun d v ι1 m1 H1 rs1 M1 T1 rv p1 => ⟨ι1, ρ, m1, rs1, M1, p1.bind.imp fun e ι2 m2 H2 T2 ⟨M2, _, q⟩ => ?_⟩
    match e, q with
    | .tup ys, q =>
      obtain ⟨ds, e, q⟩ := PostG.ok M2 q
      cases e
      exact ⟨ys, rfl, fun vs r => q (v :: vs) (.cons (T2.repV M1 rv) r)⟩
    | .non, q => exact False.elim q
    | .bl _, q => exact False.elim q
    | .int _, q => exact False.elim q
    | .str _, q => exact False.elim q
    | .ref _, q => exact False.elim q
    | .fn _, q => exact False.elim q
    | .ty _, q => exact False.elim q
    | .emp, q => exact False.elim q
    | .opq, q => exact False.elim q
    | .cls _, q => exact False.elim q
    | .ins _ _, q => exact False.elim q
theorem bind_ok {α β : Type} {o : Out α} {f : α → MV β} {b : β} {m : Mem} (h : o.bind f = .ok b m) : ∃ a m1, o = .ok a m1 ∧ f a m1 = .ok b m := by
  cases o with
  | ok a m1 => exact ⟨a, m1, rfl, h⟩
  | exc x m1 => cases h
  | bad => cases h
theorem tupLen_cons {k : Nat} (h : TupLen fb k) : TupLen (consM fa fb) (k + 1) := fun ρ m d m' e => by
  obtain ⟨x, m1, _, e⟩ := bind_ok e
  obtain ⟨y, m2, e1, e⟩ := bind_ok e
  obtain ⟨ds, rfl, hk⟩ := h _ _ _ _ e1
  cases e
  exact ⟨_, rfl, by rw [List.length_cons, hk]⟩
theorem tupLen_nil : TupLen (fun _ => okk (.tup [])) 0 := fun ρ m d m' e => by cases e; exact ⟨[], rfl, rfl⟩
/-- from a value's reading to a list's -/
theorem evE_evA {k : Nat} {f : Rho → MV D} (hl : TupLen f k) {ι : Nat → Addr} {ρ : Rho} {m : Mem} {σ : L2.St} {H : Hp} {Q : D → (Nat → Addr) → Mem → Hp → Prop} {R : List V → Hp → Prop} (rs : RepS S ι m.nx H ρ σ) (M : RepM S ι H m)
    {β : Type} {g : D → MV β} {Q : β → (Nat → Addr) → Mem → Hp → Prop} (p : PostG S ι m H (fun c d H' => W c d σ H') ((f ρ m).bind g) Q)
    (h : ∀ ds vs ι1 m1 H1, ds.length = k → RepS S ι1 m1.nx H1 ρ σ → RepM S ι1 H1 m1 → Step S ι m H ι1 m1 H1 → RepVs S ι1 m1.nx H1 ds vs → PostG S ι1 m1 H1 (fun c d H' => W c d σ H') (g (.tup ds) m1) Q → R vs H1) : evA S W f σ H R := by
  refine ⟨ι, ρ, m, rs, M, ?_⟩
  cases e : f ρ m with
  | ok d m' =>
    rw [e] at p
    obtain ⟨ds, rfl, hk⟩ := hl _ _ _ _ e
    exact fun ι1 H1 T => ⟨ds, rfl, fun vs r => h ds vs ι1 m' H1 hk (T.repS M rs) T.mem T r (PostG.step T p)⟩
  | exc x m' => rw [e] at p; exact p
  | bad => rw [e] at p; exact p
theorem bind_okk {α : Type} (o : Out α) : o.bind (fun a m => .ok a m) = o := by cases o <;> rfl
theorem s_tup {x1 : Nat} (ha : PA X es (evA S W fa)) (hl : TupLen fa es.length) (hz : es.length ≤ 1000) : PE X (.Tuple es x1 pos) (evE S W fa) :=
  peI (pe_tup ha) fun σ H Q ⟨ι, ρ, m, rs, M, p⟩ => by
    rw [← bind_okk (fa ρ m)] at p
    refine evE_evA (Q := fun _ _ _ _ => True) hl rs M p fun ds vs ι1 m1 H1 hk rs1 M1 T1 r q => ⟨by rw [← r.len, hk]; exact le_line (by omega), fun t ht => ?_⟩
    have T := Step.laid M1 ht (u := .tup vs)
    exact PostG.ok T.mem (PostG.step T q) _ (new_tup M1 ht r)
theorem s_lst (ha : PA X es (evA S W fa)) (hl : TupLen fa es.length) : PE X (.List es pos) (evE S W (lstM fa)) :=
  peI (pe_lst ha) fun σ H Q ⟨ι, ρ, m, rs, M, p⟩ => by
    refine evE_evA (Q := fun _ _ _ _ => True) hl rs M p fun ds vs ι1 m1 H1 hk rs1 M1 T1 r q => ?_
    obtain ⟨hz, q⟩ := PostG.newL M1 q r
    refine ⟨by rw [← r.len]; exact le_line hz, fun t ht => ?_⟩
    obtain ⟨_, _, q1, q2, _⟩ := q t ht
    exact q1 _ q2
theorem s_two {f : D → D → MV D} {ta : R2} {e : Expr} (h : PE X e (tOp (r2M S f) (evE S W fa) (evE S W fb))) : PE X e (evE S W (bin2 f fa fb)) :=
  peI h fun σ H Q ⟨ι, ρ, m, rs, M, p⟩ => evE_then rs M p fun d v ι1 m1 H1 rs1 M1 T1 rv p1 => evE_then rs1 M1 p1 fun e u ι2 m2 H2 rs2 M2 T2 ru p2 => ⟨ι2, m2, _, d, e, M2, T2.repV M1 rv, ru, p2⟩
theorem s_bin (g : GC S G Fs n X W) (op : BOp) (ha : PE X a (evE S W fa)) (hb : PE X b (evE S W fb)) : PE X (.BinOp a op.py b pos) (evE S W (bin2 (binF op) fa fb)) :=
  s_two (ta := fun _ _ _ _ => True) (pe_op (ob g.hK op) ha hb)
theorem mark_of {op : CmpOp} {e : Expr} (h : ∀ es k p, e ≠ .Set es k p) : behindInMarks op e = false := by
  cases e <;> first | rfl | exact absurd rfl (h _ _ _)
theorem s_cmp (g : GC S G Fs n X W) (op : COp) (ha : PE X a (evE S W fa)) (hb : PE X b (evE S W fb)) (hm : ∀ es k p, b ≠ .Set es k p) : PE X (.Compare a [op.py] [b] pos) (evE S W (bin2 (cmpM op) fa fb)) :=
  s_two (ta := fun _ _ _ _ => True) (pe_cmpR (oc g.hK (by have := g.units; omega) op) ha hb (mark_of hm))
theorem s_neg (ha : PE X a (evE S W fa)) : PE X (.UnaryOp .USub a pos) (evE S W (negM fa)) :=
  peI (pe_un un_neg ha) fun σ H Q ⟨ι, ρ, m, rs, M, p⟩ => evE_then rs M p fun d v ι1 m1 H1 rs1 M1 T1 rv p1 => by
    cases rv with
    | int i => exact ⟨i, rfl, PostG.ok M1 p1 _ (.int _)⟩
    | _ => exact False.elim p1
/-! ### tests -/
/-- a value's reading gives a bool -/
theorem evE_bool {R : Bool → Hp → Prop} {σ : L2.St} {H : Hp} (h : evB S W (testM fa) σ H R) : evE S W fa σ H fun x H' => ∃ k, x = .bl k ∧ R k H' := by
  obtain ⟨ι, ρ, m, rs, M, p⟩ := h
  refine evE_then rs M p fun d v ι1 m1 H1 rs1 M1 T1 rv p1 => ?_
  cases rv with
  | bl b => exact ⟨b, rfl, PostG.ok M1 p1⟩
  | _ => exact False.elim p1
theorem t_val {e : Expr} (h : PE X e (evE S W fa)) (he : ∀ whole, isTrue e X.env whole = (do let v ← whole; standAt e.pos; holding [v] (truthy v))) : PT X e (evB S W (testM fa)) :=
  ptI (pt_val h he) fun σ H Q w => evE_bool w
theorem t_cmp (g : GC S G Fs n X W) (op : COp) (ha : PE X a (evE S W fa)) (hb : PE X b (evE S W fb)) (hm : ∀ es k p, b ≠ .Set es k p) : PT X (.Compare a [op.py] [b] pos) (evB S W (testM (bin2 (cmpM op) fa fb))) :=
  ptI (pt_cmpR (oc g.hK (by have := g.units; omega) op) ha hb (mark_of hm)) fun σ H Q ⟨ι, ρ, m, rs, M, p⟩ => by
    have p : PostG S ι m H (fun c d H' => W c d σ H') (((fa ρ m).bind fun x m1 => (fb ρ m1).bind fun y m2 => cmpM op x y m2).bind truth) fun b _ _ H' => Q b H' := p
    have e : (((fa ρ m).bind fun x m1 => (fb ρ m1).bind fun y m2 => cmpM op x y m2).bind truth) = (fa ρ m).bind fun x m1 => (fb ρ m1).bind fun y m2 => (cmpM op x y m2).bind truth := by
      cases fa ρ m with
      | ok x m1 =>
        show (((fb ρ m1).bind fun y m2 => cmpM op x y m2).bind truth) = (fb ρ m1).bind fun y m2 => (cmpM op x y m2).bind truth
        cases fb ρ m1 <;> rfl
      | exc _ _ => rfl
      | bad => rfl
    rw [e] at p
    refine evE_then rs M p fun d v ι1 m1 H1 rs1 M1 T1 rv p1 => evE_then rs1 M1 p1 fun e u ι2 m2 H2 rs2 M2 T2 ru p2 => ⟨ι2, m2, _, d, e, M2, T2.repV M1 rv, ru, p2.bind.imp fun c ι3 m3 H3 T3 ⟨M3, _, q⟩ w rw => ?_⟩
    cases rw with
    | bl b => exact ⟨b, rfl, PostG.ok M3 q⟩
    | _ => exact False.elim q
end
end Ev

set_option Elab.async false
set_option linter.all false
set_option maxRecDepth 100000
set_option maxHeartbeats 4000000
namespace Ev
open PySem PySem.Spec PyProof.Rows L2
theorem bind_assoc {α β γ : Type} (o : Out α) (f : α → MV β) (g : β → MV γ) : (o.bind f).bind g = o.bind fun a m => (f a m).bind g := by cases o <;> rfl
section
variable {S : Sta} {G : Glo} {Fs : Fns} {n : Nat} {X : Cx} {W : WX} {a b c : Expr} {es : List Expr} {fa fb fc : Rho → MV D} {pos : Pos}
theorem sel_ok {α : Type} {ι : Nat → Addr} {m m1 : Mem} {H : Hp} {E : XK} {A B : Out α} {d : D} {Q : α → (Nat → Addr) → Mem → Hp → Prop} (p : PostG S ι m H E (sel d A B) Q) : ∃ t, d = .bl t ∧ PostG S ι m H E (if t = true then A else B) Q := by
  match d, p with
  | .bl true, p => exact ⟨true, rfl, p⟩
  | .bl false, p => exact ⟨false, rfl, p⟩
  | .non, p => exact False.elim p
  | .int _, p => exact False.elim p
  | .str _, p => exact False.elim p
  | .tup _, p => exact False.elim p
  | .ref _, p => exact False.elim p
  | .fn _, p => exact False.elim p
  | .ty _, p => exact False.elim p
  | .emp, p => exact False.elim p
  | .opq, p => exact False.elim p
  | .cls _, p => exact False.elim p
  | .ins _ _, p => exact False.elim p
/-- a test decides -/
theorem test_sel {α : Type} {ι : Nat → Addr} {ρ : Rho} {m : Mem} {H : Hp} {E : XK} {A B : MV α} {Q : α → (Nat → Addr) → Mem → Hp → Prop} {R : Bool → (Nat → Addr) → Mem → Hp → Prop}
    (p : PostG S ι m H E ((fc ρ m).bind fun x m1 => sel x (A m1) (B m1)) Q)
    (k : ∀ t ι1 m1 H1, Step S ι m H ι1 m1 H1 → PostG S ι1 m1 H1 E ((if t = true then A else B) m1) Q → R t ι1 m1 H1) : PostG S ι m H E (testM fc ρ m) R := by
  unfold testM
  cases e : fc ρ m with
  | ok d m1 =>
    rw [e] at p
    have p : PostG S ι m H E (sel d (A m1) (B m1)) Q := p
    obtain ⟨t, rfl, p⟩ := sel_ok (m1 := m1) p
    have p : PostG S ι m H E ((if t = true then A else B) m1) Q := by cases t <;> exact p
    exact fun ι1 H1 T => k t ι1 m1 H1 T (PostG.step T p)
  | exc x m1 => rw [e] at p; exact p
  | bad => rw [e] at p; exact p
theorem s_ite (hc : PT X c (evB S W (testM fc))) (ha : PE X a (evE S W fa)) (hb : PE X b (evE S W fb)) : PE X (.IfExp c a b pos) (evE S W (iteM fc fa fb)) := by
  refine peI (pe_ifExp hc ha hb) fun σ H Q ⟨ι, ρ, m, rs, M, p⟩ => ⟨ι, ρ, m, rs, M, ?_⟩
  refine test_sel (A := fa ρ) (B := fb ρ) p fun t ι1 m1 H1 T q => ?_
  cases t with
  | true => exact ⟨ι1, ρ, m1, T.repS M rs, T.mem, q⟩
  | false => exact ⟨ι1, ρ, m1, T.repS M rs, T.mem, q⟩
/-! ### and, or, not: as tests -/
theorem pwI {e : Expr} {t t' : TT} (h : PW X e t) (k : ∀ σ H Q, t' σ H Q → t σ H Q) : PW X e t' := ⟨fun wh pins s σ H Q I w => h.run wh pins s σ H Q I (k σ H Q w)⟩
theorem sel_bind {α β : Type} {d : D} {A B : Out α} {f : α → MV β} : (sel d A B).bind f = sel d (A.bind f) (B.bind f) := by
  match d with
  | .bl true => rfl
  | .bl false => rfl
  | .non => rfl
  | .int _ => rfl
  | .str _ => rfl
  | .tup _ => rfl
  | .ref _ => rfl
  | .fn _ => rfl
  | .ty _ => rfl
  | .emp => rfl
  | .opq => rfl
  | .cls _ => rfl
  | .ins _ _ => rfl
theorem test_band {ρ : Rho} {m : Mem} : testM (bandM fa fb) ρ m = (fa ρ m).bind fun x m1 => sel x (testM fb ρ m1) (.ok false m1) := by
  unfold testM bandM
  rw [bind_assoc]
  congr 1
  funext x m1
  rw [sel_bind]
  rfl
theorem test_bor {ρ : Rho} {m : Mem} : testM (borM fa fb) ρ m = (fa ρ m).bind fun x m1 => sel x (.ok true m1) (testM fb ρ m1) := by
  unfold testM borM
  rw [bind_assoc]
  congr 1
  funext x m1
  rw [sel_bind]
  rfl
theorem test_not {ρ : Rho} {m : Mem} : testM (notM fa) ρ m = (fa ρ m).bind fun x m1 => sel x (.ok false m1) (.ok true m1) := by
  unfold testM notM
  rw [bind_assoc]
  congr 1
  funext x m1
  rw [sel_bind]
  rfl
theorem w_and1 (ha : PT X a (evB S W (testM fa))) : PW X (.BoolOp .And [a] pos) (evB S W (testM fa)) := pw_and1 ha
theorem w_or1 (ha : PT X a (evB S W (testM fa))) : PW X (.BoolOp .Or [a] pos) (evB S W (testM fa)) := pw_or1 ha
theorem w_and (ha : PT X a (evB S W (testM fa))) (hb : PW X (.BoolOp .And (b :: es) pos) (evB S W (testM fb))) : PW X (.BoolOp .And (a :: b :: es) pos) (evB S W (testM (bandM fa fb))) := by
  refine pwI (pw_and ha hb) fun σ H Q ⟨ι, ρ, m, rs, M, p⟩ => ⟨ι, ρ, m, rs, M, ?_⟩
  rw [test_band] at p
  refine test_sel (A := testM fb ρ) (B := fun m1 => .ok false m1) p fun t ι1 m1 H1 T q => ?_
  cases t with
  | true => exact ⟨ι1, ρ, m1, T.repS M rs, T.mem, q⟩
  | false => exact PostG.ok T.mem q
theorem w_or (ha : PT X a (evB S W (testM fa))) (hb : PW X (.BoolOp .Or (b :: es) pos) (evB S W (testM fb))) : PW X (.BoolOp .Or (a :: b :: es) pos) (evB S W (testM (borM fa fb))) := by
  refine pwI (pw_or ha hb) fun σ H Q ⟨ι, ρ, m, rs, M, p⟩ => ⟨ι, ρ, m, rs, M, ?_⟩
  rw [test_bor] at p
  refine test_sel (A := fun m1 => .ok true m1) (B := testM fb ρ) p fun t ι1 m1 H1 T q => ?_
  cases t with
  | true => exact PostG.ok T.mem q
  | false => exact ⟨ι1, ρ, m1, T.repS M rs, T.mem, q⟩
theorem t_not (ha : PT X a (evB S W (testM fa))) : PT X (.UnaryOp .Not a pos) (evB S W (testM (notM fa))) := by
  refine ptI (pt_not ha) fun σ H Q ⟨ι, ρ, m, rs, M, p⟩ => ⟨ι, ρ, m, rs, M, ?_⟩
  rw [test_not] at p
  refine test_sel (A := fun m1 => .ok false m1) (B := fun m1 => .ok true m1) p fun t ι1 m1 H1 T q => ?_
  cases t with
  | true => exact PostG.ok T.mem q
  | false => exact PostG.ok T.mem q
/-! ### as values -/
theorem bool_sel {ι : Nat → Addr} {ρ : Rho} {m : Mem} {σ : L2.St} {H : Hp} {A B : MV D} {Q : D → (Nat → Addr) → Mem → Hp → Prop} {R : VK} (rs : RepS S ι m.nx H ρ σ) (M : RepM S ι H m)
    (p : PostG S ι m H (fun c d H' => W c d σ H') ((fa ρ m).bind fun x m1 => sel x (A m1) (B m1)) Q)
    (k : ∀ t ι1 m1 H1, RepS S ι1 m1.nx H1 ρ σ → RepM S ι1 H1 m1 → PostG S ι1 m1 H1 (fun c d H' => W c d σ H') ((if t = true then A else B) m1) Q → R (.bl t) H1) : evE S W fa σ H R := by
  refine evE_then rs M p fun d v ι1 m1 H1 rs1 M1 T1 rv p1 => ?_
  obtain ⟨t, rfl, p1⟩ := sel_ok (m1 := m1) p1
  cases rv
  exact k t ι1 m1 H1 rs1 M1 (by cases t <;> exact p1)
theorem s_and (ha : PE X a (evE S W fa)) (hb : PE X (.BoolOp .And (b :: es) pos) (evE S W fb)) : PE X (.BoolOp .And (a :: b :: es) pos) (evE S W (bandM fa fb)) := by
  refine peI (pe_and ha hb) fun σ H Q ⟨ι, ρ, m, rs, M, p⟩ => bool_sel (A := fb ρ) (B := fun m1 => .ok (.bl false) m1) rs M p fun t ι1 m1 H1 rs1 M1 q => ⟨t, rfl, ?_⟩
  cases t with
  | true => exact ⟨ι1, ρ, m1, rs1, M1, q⟩
  | false => exact PostG.ok M1 q _ (.bl _)
theorem s_or (ha : PE X a (evE S W fa)) (hb : PE X (.BoolOp .Or (b :: es) pos) (evE S W fb)) : PE X (.BoolOp .Or (a :: b :: es) pos) (evE S W (borM fa fb)) := by
  refine peI (pe_or ha hb) fun σ H Q ⟨ι, ρ, m, rs, M, p⟩ => bool_sel (A := fun m1 => .ok (.bl true) m1) (B := fb ρ) rs M p fun t ι1 m1 H1 rs1 M1 q => ⟨t, rfl, ?_⟩
  cases t with
  | true => exact PostG.ok M1 q _ (.bl _)
  | false => exact ⟨ι1, ρ, m1, rs1, M1, q⟩
theorem s_not (ha : PE X a (evE S W fa)) : PE X (.UnaryOp .Not a pos) (evE S W (notM fa)) := by
  refine peI (pe_not ha) fun σ H Q ⟨ι, ρ, m, rs, M, p⟩ => bool_sel (A := fun m1 => .ok (.bl false) m1) (B := fun m1 => .ok (.bl true) m1) rs M p fun t ι1 m1 H1 rs1 M1 q => ⟨t, rfl, ?_⟩
  cases t with
  | true => exact PostG.ok M1 q _ (.bl _)
  | false => exact PostG.ok M1 q _ (.bl _)
/-! ### a < b < c -/
theorem last_of {o o' : CmpOp} {e f : Expr} (h : ∀ es k p, f ≠ .Set es k p) : lastMarks [o, o'] [e, f] = false := mark_of h
theorem cmpM_out {o : COp} {d e r : D} {m m' : Mem} (h : cmpM o d e m = .ok r m') : m' = m ∧ ∃ t, r = .bl t := by
  unfold cmpM at h
  cases q : cmpF o d e m with
  | none => rw [q] at h; cases h
  | some t => rw [q] at h; cases h; exact ⟨rfl, t, rfl⟩
theorem chain_go (o1 o2 : COp) {σ : L2.St} {H : Hp} {Q : VK} (w : evE S W (chainM o1 o2 fa fb fc) σ H Q) : tChain (r2M S (cmpM o1)) (r2M S (cmpM o2)) (evE S W fa) (evE S W fb) (evE S W fc) σ H Q := by
  obtain ⟨ι, ρ, m, rs, M, p⟩ := w
  refine evE_then rs M p fun d v ι1 m1 H1 rs1 M1 T1 rv p1 => evE_then rs1 M1 p1 fun e u ι2 m2 H2 rs2 M2 T2 ru p2 => ⟨ι2, m2, _, d, e, M2, T2.repV M1 rv, ru, p2.bind.imp fun r ι3 m3 H3 T3 ⟨M3, _, q⟩ w rw => ?_⟩
  obtain ⟨t, rfl, q⟩ := sel_ok (m1 := m3) q
  cases rw
  refine ⟨t, rfl, ?_⟩
  cases t with
  | true => exact evE_then (T3.repS M2 rs2) M3 q fun z y ι4 m4 H4 rs4 M4 T4 ry q4 => ⟨ι4, m4, _, e, z, M4, T4.repV M3 (T3.repV M2 ru), ry, q4⟩
  | false => exact PostG.ok M3 q _ (.bl _)
theorem s_chain (g : GC S G Fs n X W) (o1 o2 : COp) (ha : PE X a (evE S W fa)) (hb : PE X b (evE S W fb)) (hc : PE X c (evE S W fc)) (hm : ∀ es k p, c ≠ .Set es k p) : PE X (.Compare a [o1.py, o2.py] [b, c] pos) (evE S W (chainM o1 o2 fa fb fc)) :=
  peI (pe_chain (oc g.hK (by have := g.units; omega) o1) (oc g.hK (by have := g.units; omega) o2) ha hb hc (last_of hm)) fun σ H Q w => chain_go o1 o2 w
theorem t_chain (g : GC S G Fs n X W) (o1 o2 : COp) (ha : PE X a (evE S W fa)) (hb : PE X b (evE S W fb)) (hc : PE X c (evE S W fc)) (hm : ∀ es k p, c ≠ .Set es k p) : PT X (.Compare a [o1.py, o2.py] [b, c] pos) (evB S W (testM (chainM o1 o2 fa fb fc))) := by
  refine ptI (pt_chain (oc g.hK (by have := g.units; omega) o1) (oc g.hK (by have := g.units; omega) o2) ha hb hc (last_of hm)) fun σ H Q w => ?_
  have w := evE_bool w
  exact chain_go o1 o2 w
/-! ### calls -/
theorem not_bad {α : Type} {ι : Nat → Addr} {m : Mem} {H : Hp} {E : XK} {o : Out α} {Q : α → (Nat → Addr) → Mem → Hp → Prop} (p : PostG S ι m H E o Q) : o ≠ .bad := fun e => by rw [e] at p; exact p
theorem run_callee {k : Nat} {ι : Nat → Addr} {m : Mem} {H : Hp} {σ : L2.St} {s : Shared} {pins : List (Addr × Obj)} {Q : VK} {ds : List D} {vs : List V} {us : List Value} (g : GC S G Fs n X W) (I : Inv X pins σ H s) (M : RepM S ι H m) (r : RepVs S ι m.nx H ds vs) (rv : Vals vs us)
    (p : PostG S ι m H (fun c d H' => W c d σ H') (Fs.F k ds m) fun d ι' m' H' => ∀ v, RepV S ι' m'.nx H' d v → Q v H') : wpAny (model X.prog X.w) X.A (call (.ref (S.fa k)) us) (EP X pins σ Q) X.xe s := by
  obtain ⟨fd, ps, hb, hl, FF⟩ := (g.fns k ds m (not_bad p)).ex
  exact run_fnG g FF hb I rv (by rw [← r.len]; exact hl ds m (not_bad p)) ⟨ι, m, ds, r, M, p⟩
/-- the arguments, then the call -/
theorem call_args {k k' : Nat} {ι : Nat → Addr} {ρ : Rho} {m : Mem} {H : Hp} {σ : L2.St} {s : Shared} {pins : List (Addr × Obj)} {Q : VK} (g : GC S G Fs n X W) (ha : PA X es (evA S W fa)) (hl : TupLen fa k') (I : Inv X pins σ H s) (rs : RepS S ι m.nx H ρ σ) (M : RepM S ι H m)
    (w : PostG S ι m H (fun c d H' => W c d σ H') (callM Fs.F k fa ρ m) fun d ι' m' H' => ∀ v, RepV S ι' m'.nx H' d v → Q v H') :
    wpAny (model X.prog X.w) X.A (spliced (backTo pos (starEach es X.env))) (fun us s1 => X.K.In s1.heap ∧ wpAny (model X.prog X.w) X.A (call (.ref (S.fa k)) us) (EP X pins σ Q) X.xe s1) X.xe s := by
  have h : evA S W fa σ H fun vs H1 => ∃ ι m ds, RepM S ι H1 m ∧ RepVs S ι m.nx H1 ds vs ∧ PostG S ι m H1 (fun c d H' => W c d σ H') (Fs.F k ds m) fun d ι' m' H' => ∀ v, RepV S ι' m'.nx H' d v → Q v H' :=
    evE_evA (Q := fun _ _ _ _ => True) hl rs M w fun ds vs ι1 m1 H1 hk rs1 M1 T1 r q => ⟨ι1, m1, ds, M1, r, q⟩
  refine thn (ha.run pos pins s σ H _ I h) fun us s1 ⟨vs, H1, I1, rv, ι1, m1, ds, M1, r, q⟩ => ⟨I1.kIn, run_callee g I1 M1 r rv q⟩
theorem s_call {k : Nat} {x : Str} {p : Pos} (g : GC S G Fs n X W) (hg : Gl X x) (hm : X.mg x = some (.ref (S.fa k))) (hd : (x == ("__debug__" : Str)) = false) (ha : PA X (a :: es) (evA S W fa)) (hl : TupLen fa (es.length + 1)) (hp : (a :: es).all plainX = true) : PE X (.Call (.Name x p) (a :: es) [] pos) (evE S W (callM Fs.F k fa)) := by
  refine ⟨fun pins s σ H Q I ⟨ι, ρ, m, rs, M, w⟩ => ?_⟩
  rw [List.all_cons, Bool.and_eq_true] at hp
  refine wpAny_Call_Name_kw (ld_glob I hg hm ?_ hd)
  exact PySem.W.callWith_K (h₀ := X.base) I.ok.mod.kin (g.kp k) (call_args g ha hl I rs M w) (star1 hp.1 es X.env) (star_any hp.2)
theorem s_call0 {k : Nat} {x : Str} {p : Pos} (g : GC S G Fs n X W) (hg : Gl X x) (hm : X.mg x = some (.ref (S.fa k))) (hd : (x == ("__debug__" : Str)) = false) : PE X (.Call (.Name x p) [] [] pos) (evE S W (callM Fs.F k fun _ => okk (.tup []))) := by
  refine ⟨fun pins s σ H Q I ⟨ι, ρ, m, rs, M, w⟩ => ?_⟩
  refine wpAny_Call_Name_kw (ld_glob I hg hm ?_ hd)
  exact PySem.W.callWith_K0 I.kIn (g.kp k) (run_callee (us := []) g I M .nil .nil w)
theorem s_callv {x : Str} {p : Pos} {ff : Rho → MV D} (g : GC S G Fs n X W) (hv : ∀ pos, PE X (.Name x pos) (evE S W ff)) (ha : PA X (a :: es) (evA S W fa)) (hl : TupLen fa (es.length + 1)) (hp : (a :: es).all plainX = true) : PE X (.Call (.Name x p) (a :: es) [] pos) (evE S W (callvM Fs.F ff fa)) := by
  refine ⟨fun pins s σ H Q I ⟨ι, ρ, m, rs, M, w⟩ => ?_⟩
  rw [List.all_cons, Bool.and_eq_true] at hp
  refine wpAny_Call_Name_kw ?_
  have h := (hv p).run pins s σ H (fun v H1 => ∃ k ι1 m1, v = .ref (S.fa k) ∧ RepS S ι1 m1.nx H1 ρ σ ∧ RepM S ι1 H1 m1 ∧ PostG S ι1 m1 H1 (fun c d H' => W c d σ H') (callM Fs.F k fa ρ m1) fun d ι' m' H' => ∀ v, RepV S ι' m'.nx H' d v → Q v H') I
    (evE_then rs M w fun d v ι1 m1 H1 rs1 M1 T1 rv q => by
      cases rv with
      | fn k => exact ⟨k, ι1, m1, rfl, rs1, M1, q⟩
      | _ => exact False.elim q)
  refine thn h fun u s1 ⟨v, H1, I1, r1, k, ι1, m1, e, rs1, M1, q⟩ => ?_
  subst e
  cases r1
  exact PySem.W.callWith_K (h₀ := X.base) I1.ok.mod.kin (g.kp k) (call_args g ha hl I1 rs1 M1 q) (star1 hp.1 es X.env) (star_any hp.2)
theorem s_callv0 {x : Str} {p : Pos} {ff : Rho → MV D} (g : GC S G Fs n X W) (hv : ∀ pos, PE X (.Name x pos) (evE S W ff)) : PE X (.Call (.Name x p) [] [] pos) (evE S W (callvM Fs.F ff fun _ => okk (.tup []))) := by
  refine ⟨fun pins s σ H Q I ⟨ι, ρ, m, rs, M, w⟩ => ?_⟩
  refine wpAny_Call_Name_kw ?_
  have h := (hv p).run pins s σ H (fun v H1 => ∃ k ι1 m1, v = .ref (S.fa k) ∧ RepS S ι1 m1.nx H1 ρ σ ∧ RepM S ι1 H1 m1 ∧ PostG S ι1 m1 H1 (fun c d H' => W c d σ H') (Fs.F k [] m1) fun d ι' m' H' => ∀ v, RepV S ι' m'.nx H' d v → Q v H') I
    (evE_then rs M w fun d v ι1 m1 H1 rs1 M1 T1 rv q => by
      cases rv with
      | fn k => exact ⟨k, ι1, m1, rfl, rs1, M1, q⟩
      | _ => exact False.elim q)
  refine thn h fun u s1 ⟨v, H1, I1, r1, k, ι1, m1, e, rs1, M1, q⟩ => ?_
  subst e
  cases r1
  exact PySem.W.callWith_K0 I1.kIn (g.kp k) (run_callee (us := []) g I1 M1 .nil .nil q)
/-! ### built-in functions -/
theorem blt_go {b : Blt} {k : Nat} (hl : TupLen fa k) {σ : L2.St} {H : Hp} {Q : VK} (w : evE S W (bltM b fa) σ H Q) : tCB (rcM S (bltF b)) (evA S W fa) σ H Q := by
  obtain ⟨ι, ρ, m, rs, M, p⟩ := w
  exact evE_evA (Q := fun _ _ _ _ => True) hl rs M p fun ds vs ι1 m1 H1 hk rs1 M1 T1 r q => ⟨ι1, m1, _, ds, M1, r, q⟩
theorem s_blt {b : Blt} {p : Pos} (g : GC S G Fs n X W) (hg : Gl X b.nm) (hm : X.mg b.nm = none) (ha : PA X (a :: es) (evA S W fa)) (hl : TupLen fa (es.length + 1)) (hp : (a :: es).all plainX = true) : PE X (.Call (.Name b.nm p) (a :: es) [] pos) (evE S W (bltM b fa)) := by
  rw [List.all_cons, Bool.and_eq_true] at hp
  have hc := cbl g.hK g.calm g.guard g.units b
  refine peI (t := tCB (rcM S (bltF b)) (evA S W fa)) ?_ fun σ H Q w => blt_go hl w
  have e1 := star1 hp.1 es X.env
  have e2 := star_any (pos := pos) (env := X.env) hp.2
  cases b with
  | int => exact pe_callTy hc hg hm (by decide +kernel) ha (by decide +kernel) (by decide +kernel) e1 e2
  | list => exact pe_callTy hc hg hm (by decide +kernel) ha (by decide +kernel) (by decide +kernel) e1 e2
  | tuple => exact pe_callTy hc hg hm (by decide +kernel) ha (by decide +kernel) (by decide +kernel) e1 e2
  | _ => exact pe_callB hc hg hm (by decide +kernel) ha (by decide +kernel) (by decide +kernel) e1 e2
/-! ### isinstance of an own class; reversed lists -/
theorem s_rev {k : Nat} {p1 p2 p3 : Pos} (g : GC S G Fs n X W) (ha : PE X a (evE S W fa)) : PE X (.Subscript a (.Slice none none (some (.UnaryOp .USub (.Constant (.int 1) k p1) p2)) p3) pos) (evE S W (revM fa)) := by
  refine peI (pe_revL ha) fun σ H Q ⟨ι, ρ, m, rs, M, p⟩ => ?_
  refine evE_then rs M p fun d v ι1 m1 H1 rs1 M1 T1 rv p1 => ?_
  obtain ⟨ds, a, vs, rfl, h1, h2, p1⟩ := lst_ok M1 rv p1
  obtain ⟨hz, q⟩ := PostG.newL M1 p1 h2.rev
  refine ⟨a, vs, rfl, by rw [g.hK]; exact h1, fun t ht => ?_⟩
  obtain ⟨_, _, q1, q2, _⟩ := q t ht
  exact q1 _ q2
/-! ### items, slices -/
theorem plainIx_of {e : Expr} (h : ∀ l u p, e ≠ .Slice l u none p) : PlainIx e := by
  intro o i
  cases e with
  | Slice l u st p => cases st with
    | none => exact absurd rfl (h _ _ _)
    | some _ => rfl
  | _ => rfl
theorem s_ix (g : GC S G Fs n X W) (ha : PE X a (evE S W fa)) (hb : PE X b (evE S W fb)) (hm : ∀ l u p, b ≠ .Slice l u none p) : PE X (.Subscript a b pos) (evE S W (bin2 ixF fa fb)) :=
  s_two (ta := fun _ _ _ _ => True) (pe_ix (ixr g.hK) ha hb (plainIx_of hm))
/-- a part of a slice, by a meaning -/
structure Part (S : Sta) (W : WX) (X : Cx) (lo : Option Expr) (f : Rho → MV (Option Int)) : Prop where
  ex : ∃ t, PO X lo t ∧ ∀ (ι : Nat → Addr) (ρ : Rho) (m : Mem) (σ : L2.St) (H : Hp) (β : Type) (g : Option Int → MV β) (Q : β → (Nat → Addr) → Mem → Hp → Prop) (R : Option Int → Hp → Prop), RepS S ι m.nx H ρ σ → RepM S ι H m →
    PostG S ι m H (fun c d H' => W c d σ H') ((f ρ m).bind g) Q →
    (∀ o ι1 m1 H1, RepS S ι1 m1.nx H1 ρ σ → RepM S ι1 H1 m1 → Step S ι m H ι1 m1 H1 → PostG S ι1 m1 H1 (fun c d H' => W c d σ H') (g o m1) Q → R o H1) → t σ H R
theorem part_none : Part S W X none (partM true fun _ => okk .non) :=
  ⟨_, po_none, fun ι ρ m σ H β g Q R rs M p k => k none ι m H rs M (Step.refl M) p⟩
theorem part_some (ha : PE X a (evE S W fa)) : Part S W X (some a) (partM false fa) := by
  refine ⟨_, po_some ha, fun ι ρ m σ H β g Q R rs M p k => ?_⟩
  unfold partM at p
  rw [bind_assoc] at p
  refine evE_then rs M p fun d v ι1 m1 H1 rs1 M1 T1 rv q => ?_
  cases rv with
  | int i => exact ⟨i, rfl, k (some i) ι1 m1 H1 rs1 M1 T1 q⟩
  | _ => exact False.elim q
theorem s_slice {lo hi : Option Expr} {p2 : Pos} {fl fh : Rho → MV (Option Int)} (g : GC S G Fs n X W) (ha : PE X a (evE S W fa)) (hl : Part S W X lo fl) (hh : Part S W X hi fh) : PE X (.Subscript a (.Slice lo hi none p2) pos) (evE S W (sliceM fa fl fh)) := by
  obtain ⟨tl, pl, kl⟩ := hl.ex
  obtain ⟨th, ph, kh⟩ := hh.ex
  refine peI (pe_slice (slr g.hK) ha pl ph) fun σ H Q ⟨ι, ρ, m, rs, M, p⟩ => ?_
  refine evE_then rs M p fun d v ι1 m1 H1 rs1 M1 T1 rv p1 => ?_
  refine kl _ _ _ _ _ _ _ _ _ rs1 M1 p1 fun lo ι2 m2 H2 rs2 M2 T2 p2 => ?_
  refine kh _ _ _ _ _ _ _ _ _ rs2 M2 p2 fun hi ι3 m3 H3 rs3 M3 T3 p3 => ?_
  exact ⟨ι3, m3, _, d, M3, T3.repV M2 (T2.repV M1 rv), p3⟩
end
end Ev

set_option Elab.async false
set_option linter.all false
set_option maxRecDepth 100000
set_option maxHeartbeats 4000000
namespace Ev
open PySem PySem.Spec PyProof.Rows L2

/-! ## what is walked -/
def Src.ds : Src → List D
  | .items ds => ds
  | .held _ ds => ds
  | .held2 _ _ ds => ds
/-- a list is held -/
def hold1 (n : Nat) (m : Mem) : Mem := match m.get n with
  | some (.lst ds) => m.put n (.rol ds)
  | _ => m
def back1 (n : Nat) (m m' : Mem) : Mem := match m.get n with
  | some (.lst ds) => m'.put n (.lst ds)
  | _ => m'
def Src.mem (s : Src) (m : Mem) : Mem := match s with
  | .items _ => m
  | .held n _ => hold1 n m
  | .held2 n k _ => hold1 k (hold1 n m)
def Src.back (s : Src) (m m' : Mem) : Mem := match s with
  | .items _ => m'
  | .held n _ => back1 n m m'
  | .held2 n k _ => back1 n m (back1 k (hold1 n m) m')
/-- what is held is a list -/
def Src.good (s : Src) (m : Mem) : Prop := match s with
  | .items _ => True
  | .held n _ => ∃ ds, m.lst n = some ds
  | .held2 n k _ => (∃ ds, m.lst n = some ds) ∧ ∃ ds, m.lst k = some ds
structure SrcOk (S : Sta) (ι : Nat → Addr) (m : Mem) (H : Hp) (s : Src) (J : It) : Prop where
  good : s.good m
  walk : ∀ ι' m' H', Step S ι (s.mem m) H ι' m' H' → ∀ i, (i < s.ds.length → J.go i H' ∧ ∀ x Hx, J.yld i H' x Hx → Step S ι' m' H' ι' m' Hx ∧ ∃ d, s.ds[i]? = some d ∧ RepV S ι' m'.nx Hx d x) ∧ (i = s.ds.length → J.stop i H')
def evI (S : Sta) (W : WX) (f : Rho → MV Src) : TI := fun σ H R => ∃ ι ρ m, RepS S ι m.nx H ρ σ ∧ RepM S ι H m ∧
  PostG S ι m H (fun c d H' => W c d σ H') (f ρ m) fun s ι' m' H' => ∀ J, SrcOk S ι' m' H' s J → R J H'
section
variable {S : Sta} {ι : Nat → Addr} {m : Mem} {H : Hp}
theorem hold_lst {n k : Nat} : (hold1 n m).lst k = m.lst k := by
  unfold hold1
  split
  · rename_i ds e
    have q : (m.put n (.rol ds)).get k = if k = n then some (.rol ds) else m.get k := by rw [get_put, e] <;> rfl
    unfold Mem.lst
    rw [q]
    by_cases h : k = n
    · rw [if_pos h, h, e]
    · rw [if_neg h]
  · rfl
theorem step_hold1 (n : Nat) (M : RepM S ι H m) : Step S ι m H ι (hold1 n m) H := by
  unfold hold1
  split
  · rename_i e
    exact Step.hold M e
  · exact Step.refl M
theorem step_back1 {n : Nat} {ι' : Nat → Addr} {m' : Mem} {H' : Hp} (M : RepM S ι H m) (T : Step S ι (hold1 n m) H ι' m' H') : Step S ι m H ι' (back1 n m m') H' := by
  unfold hold1 at T
  unfold back1
  cases e : m.get n with
  | none => rw [e] at T; exact T
  | some o =>
    rw [e] at T
    cases o with
    | lst es => exact Step.let_go M e T
    | rol es => exact T
    | kol es => exact T
    | scr es => exact T
    | ins k fs => exact T
theorem back1_nx {n : Nat} {m' : Mem} : (back1 n m m').nx = m'.nx := by
  unfold back1
  split <;> rfl
/-- a list that is held stands, whatever is done -/
theorem heldL {n : Nat} {ds : List D} (M : RepM S ι H m) (h : m.lst n = some ds) {ι' : Nat → Addr} {m' : Mem} {H' : Hp} (T : Step S ι (hold1 n m) H ι' m' H') : ∃ vs, SqL S.K H' (ι n) vs ∧ RepVs S ι' m'.nx H' ds vs := by
  unfold Mem.lst at h
  unfold hold1 at T
  cases e : m.get n with
  | none => rw [e] at h; cases h
  | some o =>
    rw [e] at h T
    cases o with
    | lst es =>
      cases h
      obtain ⟨vs, a, b, c⟩ := Step.held M e T
      exact ⟨vs, .of b, c⟩
    | rol es =>
      cases h
      obtain ⟨vs, a, b⟩ := M.ob n _ e
      refine ⟨vs, ?_, T.repVs M b⟩
      rcases a with a | ⟨ob, a⟩
      · refine .inl (.inl (T.keep _ _ a rfl fun k ⟨es', e', w⟩ z => ?_))
        have := M.inj k n _ _ e' e (isW_inH w) rfl z
        rw [this, e] at e'
        cases e'
        cases w
      · exact .inl (.inr ⟨ob, T.tups M _ _ a rfl⟩)
    | kol es =>
      cases h
      obtain ⟨vs, a, b⟩ := M.ob n _ e
      exact ⟨vs, .inr a, T.repVs M b⟩
    | scr ns =>
      cases h
      rcases M.ob n _ e with a | ⟨ob, a⟩
      · exact ⟨_, .inr a, ints_rep ns⟩
      · exact ⟨_, .inl (.inr ⟨ob, T.tups M _ _ a rfl⟩), ints_rep ns⟩
    | ins k fs => cases h
/-- a list or a tuple, as a part of what is walked -/
theorem srcOf_ok {d : D} {v : V} {s : Src} {m' : Mem} (M : RepM S ι H m) (rv : RepV S ι m.nx H d v) (h : srcOf d m = .ok s m') : m' = m ∧ s.good m ∧ (∀ n k ds, s ≠ .held2 n k ds) ∧ ∃ b a, v = .ref a ∧ (∃ xs, EnZ.SqB b S.K H a xs) ∧ (∀ n ds, s = .held n ds → b = true ∧ a = ι n ∧ m.lst n = some ds) ∧
    ∀ ι' m' H', Step S ι (s.mem m) H ι' m' H' → ∃ vs, EnZ.SqB b S.K H' a vs ∧ RepVs S ι' m'.nx H' s.ds vs := by
  cases rv with
  | @tup a vs ds ha r =>
    cases h
    exact ⟨rfl, True.intro, (fun _ _ _ z => by cases z), false, a, rfl, ⟨_, ha⟩, (fun _ _ z => by cases z), fun ι' m' H' T => ⟨_, sqT_up ha (T.tups M a), T.repVs M r⟩⟩
  | @ref n hn =>
    have h : (match m.lst n with | some ds => Out.ok (Src.held n ds) m | none => .bad) = .ok s m' := h
    cases e : m.lst n with
    | none => rw [e] at h; cases h
    | some ds =>
      rw [e] at h
      cases h
      obtain ⟨xs, hx, _⟩ := M.lstL e
      exact ⟨rfl, ⟨ds, e⟩, (fun _ _ _ z => by cases z), true, _, rfl, ⟨xs, hx⟩, (fun _ _ z => by cases z; exact ⟨rfl, rfl, e⟩), fun ι' m' H' T => heldL M e T⟩
  | _ => cases h
theorem srcOf_post {d : D} {v : V} {E : XK} {Q : Src → (Nat → Addr) → Mem → Hp → Prop} (M : RepM S ι H m) (rv : RepV S ι m.nx H d v) (p : PostG S ι m H E (srcOf d m) Q) : ∃ s, srcOf d m = .ok s m ∧ Q s ι m H := by
  cases e : srcOf d m with
  | ok s m' =>
    obtain ⟨rfl, _⟩ := srcOf_ok M rv e
    rw [e] at p
    exact ⟨s, rfl, PostG.ok M p⟩
  | exc x m' =>
    cases rv with
    | @ref n hn =>
      have e : (match m.lst n with | some ds => Out.ok (Src.held n ds) m | none => .bad) = .exc x m' := e
      cases q : m.lst n with
      | none => rw [q] at e; cases e
      | some ds => rw [q] at e; cases e
    | _ => cases e
  | bad => rw [e] at p; exact False.elim p
end
section
variable {X : Cx} {tg : Expr}
theorem piI {e : Expr} {t t' : TI} (h : PI X tg e t) (k : ∀ σ H Q, t' σ H Q → t σ H Q) : PI X tg e t' := ⟨fun pins s σ H Q I w => h.run pins s σ H Q I (k σ H Q w)⟩
/-- a list or a tuple -/
theorem pi_seq {l : Expr} {tl : TE} (hl : PE X l tl) : PI X tg l fun σ H R => tl σ H fun x H1 => ∃ a, x = .ref a ∧ (((∃ xs, SqL X.K H1 a xs) ∧ R (Itl X.K a) H1) ∨ ((∃ xs, SqT X.K H1 a xs) ∧ R (Itt X.K a) H1)) := by
  constructor
  intro pins s σ H R I h
  refine thn (hl.run pins s σ H _ I h) fun v s1 ⟨x, H1, I1, r1, a, e, q⟩ => ?_
  subst e
  cases r1
  have fresh : ∀ {o : Obj} {b : Addr}, b ∈ [s1.heap.objs.size] → FpOk X pins H1 b := fun {o b} hb => by
    obtain rfl : b = s1.heap.objs.size := by simpa using hb
    exact I1.fpOk (Nat.le_refl _) (I1.hok.fresh (Nat.le_refl _))
  have kp : ∀ (o : Obj), Inv X pins σ H1 { s1 with heap := s1.heap.push o } := fun o => I1.kept (t' := s1.toks) fun b u e => Heap.get?_push_of_some _ e
  rcases q with ⟨⟨xs, hq⟩, q⟩ | ⟨⟨xs, hq⟩, q⟩
  · obtain ⟨its, _, p, _⟩ := I1.list hq
    exact wpAny_pyIter_list p.isList ⟨_, [s1.heap.objs.size], _, _, H1, rfl, kp _, turn_list a _, ⟨_, Heap.get?_push_size _ rfl, rfl, rfl⟩, fun b hb => fresh (o := default) hb, q⟩
  · obtain ⟨its, _, p, _⟩ := I1.tuple hq
    exact wpAny_pyIter_tuple (show s1.heap.IsTuple a its.toArray from p) ⟨_, [s1.heap.objs.size], _, _, H1, rfl, kp _, turn_tuple a _, ⟨_, Heap.get?_push_size _ rfl, rfl, rfl⟩, fun b hb => fresh (o := default) hb, q⟩
end
section
variable {S : Sta} {G : Glo} {Fs : Fns} {n : Nat} {X : Cx} {W : WX} {a b c tg : Expr} {es : List Expr} {fa fb fc : Rho → MV D} {pos : Pos}
theorem i_val (g : GC S G Fs n X W) (ha : PE X a (evE S W fa)) : PI X tg a (evI S W (asV fa).s) := by
  refine piI (pi_seq ha) fun σ H R ⟨ι, ρ, m, rs, M, p⟩ => ?_
  refine evE_then rs M p fun d v ι1 m1 H1 rs1 M1 T1 rv q => ?_
  obtain ⟨s, hs, q⟩ := srcOf_post M1 rv q
  obtain ⟨_, hg, _, b, a, rfl, ⟨xs, hx⟩, _, hw⟩ := srcOf_ok M1 rv hs
  refine ⟨a, rfl, ?_⟩
  rw [g.hK]
  cases b with
  | true =>
    refine .inl ⟨⟨xs, hx⟩, q _ ⟨hg, fun ι' m' H' T i => ?_⟩⟩
    obtain ⟨vs, h, r⟩ := hw _ _ _ T
    refine ⟨fun hi => ?_, fun hi => ⟨vs, h, by rw [← r.len]; omega⟩⟩
    obtain ⟨v, e1, e2⟩ := r.get i (List.getElem?_eq_getElem hi)
    refine ⟨⟨vs, v, h, e1⟩, fun x Hx ⟨e, y⟩ => ?_⟩
    subst e
    have := y vs h
    rw [e1] at this
    cases this
    exact ⟨Step.refl T.mem, _, List.getElem?_eq_getElem hi, e2⟩
  | false =>
    refine .inr ⟨⟨xs, hx⟩, q _ ⟨hg, fun ι' m' H' T i => ?_⟩⟩
    obtain ⟨vs, h, r⟩ := hw _ _ _ T
    refine ⟨fun hi => ?_, fun hi => ⟨vs, h, by rw [← r.len]; omega⟩⟩
    obtain ⟨v, e1, e2⟩ := r.get i (List.getElem?_eq_getElem hi)
    refine ⟨⟨vs, v, h, e1⟩, fun x Hx ⟨e, y⟩ => ?_⟩
    subst e
    have := y vs h
    rw [e1] at this
    cases this
    exact ⟨Step.refl T.mem, _, List.getElem?_eq_getElem hi, e2⟩
theorem enumD_len : ∀ {ds : List D} {i : Int}, (enumD i ds).length = ds.length
  | [], _ => rfl
  | d :: r, i => by show (enumD (i + 1) r).length + 1 = _; rw [enumD_len]; rfl
theorem enumD_get : ∀ {ds : List D} {i : Int} {j : Nat} {d : D}, ds[j]? = some d → (enumD i ds)[j]? = some (.tup [.int (i + (j : Nat)), d])
  | [], _, _, _, h => by simp at h
  | e :: r, i, 0, d, h => by
    cases h
    show some _ = some _
    rw [show i + ((0 : Nat) : Int) = i by omega]
  | e :: r, i, j + 1, d, h => by
    show (enumD (i + 1) r)[j]? = _
    rw [enumD_get (ds := r) (j := j) h, show i + 1 + (j : Int) = i + ((j + 1 : Nat) : Int) by omega]
theorem zipD_len : ∀ {xs ys : List D}, (zipD xs ys).length = min xs.length ys.length
  | [], ys => by simp [zipD]
  | x :: xs, [] => by simp [zipD]
  | x :: xs, y :: ys => by show (zipD xs ys).length + 1 = _; rw [zipD_len]; simp only [List.length_cons]; omega
theorem zipD_get : ∀ {xs ys : List D} {j : Nat} {d e : D}, xs[j]? = some d → ys[j]? = some e → (zipD xs ys)[j]? = some (.tup [d, e])
  | [], _, _, _, _, h, _ => by simp at h
  | _ :: _, [], _, _, _, _, h => by simp at h
  | x :: xs, y :: ys, 0, d, e, h, h' => by cases h; cases h'; rfl
  | x :: xs, y :: ys, j + 1, d, e, h, h' => zipD_get (xs := xs) (ys := ys) (j := j) h h'
theorem i_enum {elts : List Expr} {kk : Nat} {tpos p : Pos} (g : GC S G Fs n X W) (hg : Gl X "enumerate") (hm : X.mg "enumerate" = none) (ha : PE X a (evE S W fa)) (hp : plainX a = true) : PI X (.Tuple elts kk tpos) (.Call (.Name "enumerate" p) [a] [] pos) (evI S W (enumM fa)) := by
  refine piI (EnZ.pi_enumB hg hm (pa_cons ha pa_nil (star1 hp [] X.env)) (star1 hp [] X.env)) fun σ H R ⟨ι, ρ, m, rs, M, p⟩ => ?_
  refine evE_then rs M p fun d v ι1 m1 H1 rs1 M1 T1 rv q => ?_
  obtain ⟨s, hs, _, _, q⟩ := srcOf_post M1 rv q.bind
  obtain ⟨_, hgd, h2, b, a, rfl, ⟨xs, hx⟩, _, hw⟩ := srcOf_ok M1 rv hs
  refine ⟨b, a, xs, rfl, by rw [g.hK]; exact hx, ?_⟩
  rw [g.hK]
  have em : (enumS s).mem m1 = s.mem m1 := by cases s <;> first | rfl | exact absurd rfl (h2 _ _ _)
  have ed : (enumS s).ds = enumD 0 s.ds := by cases s <;> first | rfl | exact absurd rfl (h2 _ _ _)
  refine PostG.ok M1 q _ ⟨by cases s <;> first | exact hgd | exact absurd rfl (h2 _ _ _), fun ι' m' H' T i => ?_⟩
  rw [em] at T
  obtain ⟨vs, h, r⟩ := hw _ _ _ T
  rw [ed, enumD_len]
  refine ⟨fun hi => ?_, fun hi => ⟨vs, h, by rw [← r.len]; omega⟩⟩
  obtain ⟨v, e1, e2⟩ := r.get i (List.getElem?_eq_getElem hi)
  refine ⟨⟨vs, v, h, e1⟩, fun x Hx ⟨t, x', ex, ht, eH, y⟩ => ?_⟩
  subst ex
  subst eH
  have := y vs h
  rw [e1] at this
  cases this
  have L := Step.laid T.mem ht (u := .tup [.int (i : Nat), v])
  refine ⟨L, _, enumD_get (List.getElem?_eq_getElem hi), ?_⟩
  rw [show (0 : Int) + (i : Nat) = ((i : Nat) : Int) by omega]
  exact new_tup T.mem ht (.cons (.int _) (.cons e2 .nil))
theorem i_zip {elts : List Expr} {kk : Nat} {tpos p : Pos} (g : GC S G Fs n X W) (hg : Gl X "zip") (hm : X.mg "zip" = none) (ha : PE X a (evE S W fa)) (hb : PE X b (evE S W fb)) (hp : plainX a = true) (hp2 : plainX b = true) : PI X (.Tuple elts kk tpos) (.Call (.Name "zip" p) [a, b] [] pos) (evI S W (zipM fa fb)) := by
  refine piI (EnZ.pi_zipB hg hm (pa_cons ha (pa_cons hb pa_nil (star1 hp2 [] X.env)) (star1 hp [b] X.env)) (star1 hp [b] X.env) (star_any (by rw [List.all_cons, hp2] <;> rfl))) fun σ H R ⟨ι, ρ, m, rs, M, p⟩ => ?_
  refine evE_then rs M p fun d v ι1 m1 H1 rs1 M1 T1 rv q => evE_then rs1 M1 q fun e u ι2 m2 H2 rs2 M2 T2 ru q => ?_
  have rv := T2.repV M1 rv
  obtain ⟨s, hs, _, _, q⟩ := srcOf_post M2 rv q.bind
  obtain ⟨t, ht, _, _, q⟩ := srcOf_post M2 ru q.bind
  obtain ⟨w, hw, q⟩ := some_ok q
  obtain ⟨_, hgs, hs2, b1, a1, rfl, ⟨xs, hx⟩, _, ws⟩ := srcOf_ok M2 rv hs
  obtain ⟨_, hgt, ht2, b2, a2, rfl, ⟨ys, hy⟩, hth, wt⟩ := srcOf_ok M2 ru ht
  refine ⟨b1, b2, a1, a2, xs, ys, rfl, by rw [g.hK]; exact hx, by rw [g.hK]; exact hy, ?_⟩
  rw [g.hK]
  refine PostG.ok M2 q _ ?_
  have key : w.good m2 ∧ w.ds = zipD s.ds t.ds ∧ ∀ ι' m' H', Step S ι2 (w.mem m2) H2 ι' m' H' → (∃ vs, EnZ.SqB b1 S.K H' a1 vs ∧ RepVs S ι' m'.nx H' s.ds vs) ∧ ∃ vs, EnZ.SqB b2 S.K H' a2 vs ∧ RepVs S ι' m'.nx H' t.ds vs := by
    cases s with
    | items xs =>
      cases t with
      | items ys => cases hw; exact ⟨True.intro, rfl, fun ι' m' H' T => ⟨ws _ _ _ T, wt _ _ _ T⟩⟩
      | held k ys => cases hw; exact ⟨hgt, rfl, fun ι' m' H' T => ⟨ws _ _ _ ((step_hold1 k M2).trans T), wt _ _ _ T⟩⟩
      | held2 _ _ _ => exact absurd rfl (ht2 _ _ _)
    | held j xs =>
      cases t with
      | items ys => cases hw; exact ⟨hgs, rfl, fun ι' m' H' T => ⟨ws _ _ _ T, wt _ _ _ ((step_hold1 j M2).trans T)⟩⟩
      | held k ys =>
        cases hw
        refine ⟨⟨hgs, hgt⟩, rfl, fun ι' m' H' T => ?_⟩
        have T0 := step_hold1 j M2
        refine ⟨ws _ _ _ ((step_hold1 k T0.mem).trans T), ?_⟩
        obtain ⟨rfl, rfl, e3⟩ := hth k ys rfl
        have ez : (hold1 j m2).lst k = some ys := hold_lst.trans e3
        exact heldL T0.mem ez T
      | held2 _ _ _ => exact absurd rfl (ht2 _ _ _)
    | held2 _ _ _ => exact absurd rfl (hs2 _ _ _)
  obtain ⟨k1, k2, k3⟩ := key
  refine ⟨k1, fun ι' m' H' T i => ?_⟩
  obtain ⟨⟨vs, h1, r1⟩, us, h2, r2⟩ := k3 _ _ _ T
  rw [k2, zipD_len]
  refine ⟨fun hi => ?_, fun hi => ⟨vs, us, h1, h2, by rw [← r1.len, ← r2.len]; omega⟩⟩
  have hi1 : i < s.ds.length := by omega
  have hi2 : i < t.ds.length := by omega
  obtain ⟨v, e1, e2⟩ := r1.get i (List.getElem?_eq_getElem hi1)
  obtain ⟨u, e3, e4⟩ := r2.get i (List.getElem?_eq_getElem hi2)
  refine ⟨⟨vs, us, v, u, h1, h2, e1, e3⟩, fun x Hx ⟨t, x', y', ex, ht, eH, y1, y2⟩ => ?_⟩
  subst ex
  subst eH
  have z1 := y1 vs h1
  rw [e1] at z1
  cases z1
  have z2 := y2 us h2
  rw [e3] at z2
  cases z2
  exact ⟨Step.laid T.mem ht (u := .tup [v, u]), _, zipD_get (List.getElem?_eq_getElem hi1) (List.getElem?_eq_getElem hi2), new_tup T.mem ht (.cons e2 (.cons e4 .nil))⟩
theorem iotaC_len : ∀ {k : Nat} {lo c : Int}, (iotaC lo c k).length = k
  | 0, _, _ => rfl
  | k + 1, lo, c => by show (iotaC (lo + c) c k).length + 1 = _; rw [iotaC_len]
theorem iotaC_get : ∀ {k i : Nat} {lo c : Int}, i < k → (iotaC lo c k)[i]? = some (.int (lo + (i : Nat) * c))
  | k + 1, 0, lo, c, _ => by simp [iotaC]
  | k + 1, i + 1, lo, c, h => by
    have := iotaC_get (k := k) (i := i) (lo := lo + c) (c := c) (by omega)
    show (iotaC (lo + c) c k)[i]? = _
    rw [this, show lo + c + (i : Int) * c = lo + ((i + 1 : Nat) : Int) * c by rw [Int.natCast_add, Int.add_mul]; omega]
theorem i_rng3 {p : Pos} (hg : Gl X "range") (hm : X.mg "range" = none) (ha : PE X a (evE S W fa)) (hb : PE X b (evE S W fb)) (hc : PE X c (evE S W fc)) (hp : plainX a = true) (hp2 : plainX b = true) (hp3 : plainX c = true) : PI X tg (.Call (.Name "range" p) [a, b, c] [] pos) (evI S W (rng3M fa fb fc)) := by
  refine piI (pi_range3 hg hm (pa_cons ha (pa_cons hb (pa_cons hc pa_nil (star1 hp3 [] X.env)) (star1 hp2 [c] X.env)) (star1 hp [b, c] X.env)) (star1 hp [b, c] X.env) (star_any (by rw [List.all_cons, hp2, List.all_cons, hp3] <;> rfl))) fun σ H R ⟨ι, ρ, m, rs, M, p⟩ => ?_
  refine evE_then rs M p fun d v ι1 m1 H1 rs1 M1 T1 rv q => evE_then rs1 M1 q fun e u ι2 m2 H2 rs2 M2 T2 ru q => evE_then rs2 M2 q fun f w ι3 m3 H3 rs3 M3 T3 rw' q => ?_
  cases rv with
  | int i => cases ru with
    | int j => cases rw' with
      | int k =>
        have q : PostG S ι3 m3 H3 (fun c d H' => W c d σ H') (rngC i j k m3) fun s ι' m' H' => ∀ J, SrcOk S ι' m' H' s J → R J H' := q
        unfold rngC at q
        cases e : !decide (k = 0) && decide (k.natAbs < 1073741824) && Builtin.Range.small i j k && decide (0 ≤ Builtin.Range.rangeSize i j k) with
        | false => rw [e] at q; exact False.elim q
        | true =>
          rw [e] at q
          simp only [Bool.and_eq_true, decide_eq_true_eq, Bool.not_eq_true', decide_eq_false_iff_not] at e
          obtain ⟨⟨⟨h1, h2⟩, h3⟩, h4⟩ := e
          refine ⟨i, j, k, (Builtin.Range.rangeSize i j k).toNat, rfl, ⟨h1, h2, h3, by omega⟩, PostG.ok M3 q _ ⟨True.intro, fun ι' m' H' T z => ?_⟩⟩
          rw [show (Src.items (iotaC i k (Builtin.Range.rangeSize i j k).toNat)).ds = iotaC i k (Builtin.Range.rangeSize i j k).toNat from rfl, iotaC_len]
          refine ⟨fun hi => ⟨hi, fun x Hx ⟨e, y⟩ => ?_⟩, fun hi => by rw [hi]; exact Nat.le_refl _⟩
          subst e
          subst y
          exact ⟨Step.refl T.mem, _, iotaC_get hi, .int _⟩
      | _ => exact False.elim q
    | _ => cases rw' <;> exact False.elim q
  | _ => cases ru <;> cases rw' <;> exact False.elim q
theorem iota_get : ∀ {k i : Nat} {lo : Int}, i < k → (iota lo k)[i]? = some (.int (lo + i))
  | k + 1, 0, lo, _ => by simp [iota]
  | k + 1, i + 1, lo, h => by
    have := iota_get (k := k) (i := i) (lo := lo + 1) (by omega)
    show (iota (lo + 1) k)[i]? = _
    rw [this, show lo + 1 + (i : Int) = lo + ((i + 1 : Nat) : Int) by omega]
theorem iota_len : ∀ {k : Nat} {lo : Int}, (iota lo k).length = k
  | 0, _ => rfl
  | k + 1, lo => by show (iota (lo + 1) k).length + 1 = _; rw [iota_len]
theorem rng_ok {ι : Nat → Addr} {m : Mem} {H : Hp} {E : XK} {i j : Int} {R : It → Hp → Prop} (M : RepM S ι H m) (p : PostG S ι m H E (rngI i j m) fun s ι' m' H' => ∀ J, SrcOk S ι' m' H' s J → R J H') :
    (-(2 ^ 62) ≤ i ∧ i < 2 ^ 62 ∧ -(2 ^ 62) ≤ j ∧ j < 2 ^ 62) ∧ R (Itr i (j - i).toNat) H := by
  unfold rngI at p
  cases e : small i && small j with
  | false => rw [e] at p; exact False.elim p
  | true =>
    rw [e] at p
    simp only [small, Bool.and_eq_true, decide_eq_true_eq] at e
    refine ⟨⟨by omega, by omega, by omega, by omega⟩, PostG.ok M p _ ⟨True.intro, fun ι' m' H' T z => ?_⟩⟩
    rw [show (Src.items (iota i (j - i).toNat)).ds = iota i (j - i).toNat from rfl, iota_len]
    refine ⟨fun hi => ⟨hi, fun x Hx ⟨e, y⟩ => ?_⟩, fun hi => by rw [hi]; exact Nat.le_refl _⟩
    subst e
    subst y
    exact ⟨Step.refl T.mem, _, iota_get hi, .int _⟩
theorem i_rng1 {p : Pos} (hg : Gl X "range") (hm : X.mg "range" = none) (ha : PE X a (evE S W fa)) (hp : plainX a = true) : PI X tg (.Call (.Name "range" p) [a] [] pos) (evI S W (rng1M fa)) := by
  refine piI (pi_range1 hg hm (pa_cons ha pa_nil (star1 hp [] X.env)) (star1 hp [] X.env)) fun σ H R ⟨ι, ρ, m, rs, M, p⟩ => ?_
  refine evE_then rs M p fun d v ι1 m1 H1 rs1 M1 T1 rv q => ?_
  cases rv with
  | int j =>
    obtain ⟨⟨_, _, h3, h4⟩, q⟩ := rng_ok M1 q
    exact ⟨j, rfl, h3, h4, by rw [Int.sub_zero] at q; exact q⟩
  | _ => exact False.elim q
theorem i_rng2 {p : Pos} (hg : Gl X "range") (hm : X.mg "range" = none) (ha : PE X a (evE S W fa)) (hb : PE X b (evE S W fb)) (hp : plainX a = true) (hp2 : plainX b = true) : PI X tg (.Call (.Name "range" p) [a, b] [] pos) (evI S W (rng2M fa fb)) := by
  refine piI (pi_range2 hg hm (pa_cons ha (pa_cons hb pa_nil (star1 hp2 [] X.env)) (star1 hp [b] X.env)) (by rw [star1 hp, star1 hp2] <;> rfl) (star1 hp2 [] X.env)) fun σ H R ⟨ι, ρ, m, rs, M, p⟩ => ?_
  refine evE_then rs M p fun d v ι1 m1 H1 rs1 M1 T1 rv q => evE_then rs1 M1 q fun e u ι2 m2 H2 rs2 M2 T2 ru q => ?_
  cases rv with
  | int i => cases ru with
    | int j =>
      obtain ⟨h, q⟩ := rng_ok M2 q
      exact ⟨i, j, rfl, h, q⟩
    | _ => exact False.elim q
  | _ => cases ru <;> exact False.elim q
/-! ## targets -/
structure Out1 (L : List Nat) (σ σ' : L2.St) : Prop where
  len : σ'.length = σ.length
  out : ∀ i, i ∉ L → σ'[i]? = σ[i]?
def evG (S : Sta) (L : List Nat) (f : D → Rho → MV Rho) : TG := fun v σ H Q => ∃ ι ρ m d, RepS S ι m.nx H ρ σ ∧ RepM S ι H m ∧ RepV S ι m.nx H d v ∧
  PostG S ι m H (fun _ _ _ => False) (noX (f d ρ m)) fun ρ' ι' m' H' => ∀ σ', RepS S ι' m'.nx H' ρ' σ' → Out1 L σ σ' → Q σ' H'
def evGs (S : Sta) (L : List Nat) (f : D → Rho → MV Rho) : TGs := fun vs σ H Q => ∃ ι ρ m ds, RepS S ι m.nx H ρ σ ∧ RepM S ι H m ∧ RepVs S ι m.nx H ds vs ∧
  PostG S ι m H (fun _ _ _ => False) (noX (f (.tup ds) ρ m)) fun ρ' ι' m' H' => ∀ σ', RepS S ι' m'.nx H' ρ' σ' → Out1 L σ σ' → Q σ' H'
theorem pgI {e : Expr} {t t' : TG} (h : PG X e t) (k : ∀ v σ H Q, t' v σ H Q → t v σ H Q) : PG X e t' := ⟨fun pins s σ H v u Q I r w => h.run pins s σ H v u Q I r (k v σ H Q w)⟩
theorem pgsI {e : List Expr} {t t' : TGs} (h : PGs X e t) (k : ∀ v σ H Q, t' v σ H Q → t v σ H Q) : PGs X e t' := ⟨fun pins s σ H v u Q I r w => h.run pins s σ H v u Q I r (k v σ H Q w)⟩
theorem noX_bind {α β : Type} {o : Out α} {f : α → MV β} : noX (o.bind f) = (noX o).bind fun a m => noX (f a m) := by cases o <;> rfl
theorem noX_noX {α : Type} {o : Out α} : noX (noX o) = noX o := by cases o <;> rfl
theorem noX_any {α : Type} {ι : Nat → Addr} {m : Mem} {H : Hp} {E E' : XK} {o : Out α} {Q : α → (Nat → Addr) → Mem → Hp → Prop} (p : PostG S ι m H E (noX o) Q) : PostG S ι m H E' (noX o) Q := by
  cases o with
  | ok a m' => exact p
  | exc x m' => exact False.elim p
  | bad => exact False.elim p
theorem noX_of {α : Type} {ι : Nat → Addr} {m : Mem} {H : Hp} {E E' : XK} {o : Out α} {Q : α → (Nat → Addr) → Mem → Hp → Prop} (p : PostG S ι m H E (noX o) Q) : PostG S ι m H E' o Q := by
  cases o with
  | ok a m' => exact p
  | exc x m' => exact False.elim p
  | bad => exact False.elim p
theorem out_set {σ : L2.St} {i : Nat} {v : V} : Out1 [i] σ (σ.set i (some v)) := ⟨by rw [List.length_set], fun j h => List.getElem?_set_ne (fun e => h (by rw [e]; exact List.mem_singleton.mpr rfl))⟩
theorem Out1.refl {L : List Nat} {σ : L2.St} : Out1 L σ σ := ⟨rfl, fun _ _ => rfl⟩
theorem Out1.app {L L' : List Nat} {σ σ' σ2 : L2.St} (A : Out1 L σ σ') (B : Out1 L' σ' σ2) : Out1 (L ++ L') σ σ2 :=
  ⟨B.len.trans A.len, fun i h => (B.out i fun z => h (List.mem_append_right _ z)).trans (A.out i fun z => h (List.mem_append_left _ z))⟩
theorem g_name {i : Nat} {x : Str} (g : GC S G Fs n X W) (hi : X.N[i]? = some x) (hx : Loc X.env.scope x) (hf : X.fn x = true ∨ X.env.scope.names.lookup x = some .local) : PG X (.Name x pos) (evG S [i] (tnmM i)) :=
  pgI (pg_name g.nd hi hx hf) fun v σ H Q ⟨ι, ρ, m, d, rs, M, rd, p⟩ => PostG.ok M p _ (rs.set rd i) out_set
theorem g_nil : PGs X [] (evGs S [] tnilM) := pgsI pgs_nil fun vs σ H Q ⟨ι, ρ, m, ds, rs, M, rd, p⟩ => by
  match ds, rd, p with
  | [], rd, p =>
    cases rd
    exact ⟨rfl, PostG.ok M p _ rs Out1.refl⟩
  | _ :: _, _, p => exact False.elim p
theorem asg1 {e : Expr} (h : plainX e = true) (es : List Expr) (env : PySem.Env) : assignEach (e :: es) env = (false, assign e env) :: assignEach es env := by
  cases e <;> first | rfl | cases h
theorem g_cons {e : Expr} {L L' : List Nat} {ft fs : D → Rho → MV Rho} (h1 : PG X e (evG S L ft)) (h2 : PGs X es (evGs S L' fs)) (hp : plainX e = true) : PGs X (e :: es) (evGs S (L ++ L') (tconsM ft fs)) := by
  refine pgsI (pgs_cons h1 h2 (by rw [asg1 hp] <;> rfl)) fun vs σ H Q ⟨ι, ρ, m, ds, rs, M, rd, p⟩ => ?_
  match ds, rd, p with
  | [], _, p => exact False.elim p
  | d :: ds, .cons (v := v) (vs := vr) r rr, p =>
    refine ⟨v, vr, rfl, ι, ρ, m, d, rs, M, r, ?_⟩
    have p : PostG S ι m H (fun _ _ _ => False) (noX ((ft d ρ m).bind fun ρ1 m1 => fs (.tup ds) ρ1 m1)) fun ρ' ι' m' H' => ∀ σ', RepS S ι' m'.nx H' ρ' σ' → Out1 (L ++ L') σ σ' → Q σ' H' := p
    rw [noX_bind] at p
    refine p.bind.imp fun ρ1 ι1 m1 H1 T ⟨M1, _, q⟩ σ1 rs1 o1 => ⟨ι1, ρ1, m1, ds, rs1, M1, T.repVs M rr, q.imp fun ρ2 ι2 m2 H2 T2 q2 σ2 rs2 o2 => q2 σ2 rs2 (o1.app o2)⟩
def TgtLen (f : D → Rho → MV Rho) (k : Nat) : Prop := ∀ d ρ m, (∀ ds, d = .tup ds → ds.length ≠ k) → noX (f d ρ m) = .bad
theorem tgtLen_nil : TgtLen tnilM 0 := fun d ρ m h => by
  match d, h with
  | .tup [], h => exact absurd rfl (h [] rfl)
  | .tup (_ :: _), _ => rfl
  | .non, _ => rfl
  | .bl _, _ => rfl
  | .int _, _ => rfl
  | .str _, _ => rfl
  | .ref _, _ => rfl
  | .fn _, _ => rfl
  | .ty _, _ => rfl
  | .emp, _ => rfl
  | .opq, _ => rfl
  | .cls _, _ => rfl
  | .ins _ _, _ => rfl
theorem tgtLen_cons {k : Nat} {ft fs : D → Rho → MV Rho} (h : TgtLen fs k) : TgtLen (tconsM ft fs) (k + 1) := fun d ρ m hn => by
  match d, hn with
  | .tup [], _ => rfl
  | .tup (d :: ds), hn =>
    show noX ((ft d ρ m).bind fun ρ1 m1 => fs (.tup ds) ρ1 m1) = .bad
    rw [noX_bind]
    have hn : ∀ es, D.tup ds = .tup es → es.length ≠ k := fun es e q => by
      cases e
      exact hn _ rfl (by rw [List.length_cons, q])
    cases ft d ρ m with
    | ok ρ1 m1 => exact h _ ρ1 m1 hn
    | _ => rfl
  | .non, _ => rfl
  | .bl _, _ => rfl
  | .int _, _ => rfl
  | .str _, _ => rfl
  | .ref _, _ => rfl
  | .fn _, _ => rfl
  | .ty _, _ => rfl
  | .emp, _ => rfl
  | .opq, _ => rfl
  | .cls _, _ => rfl
  | .ins _ _, _ => rfl
theorem asg_len : ∀ {es : List Expr} {env : PySem.Env}, es.all plainX = true → (assignEach es env).length = es.length ∧ (assignEach es env).findIdx? (·.1) = none
  | [], _, _ => ⟨rfl, rfl⟩
  | e :: es, env, h => by
    rw [List.all_cons, Bool.and_eq_true] at h
    obtain ⟨h1, h2⟩ := asg_len (env := env) h.2
    rw [asg1 h.1]
    refine ⟨by rw [List.length_cons, List.length_cons, h1], ?_⟩
    rw [List.findIdx?_cons, h2] <;> rfl
theorem g_tup {k : Nat} {L : List Nat} {ft : D → Rho → MV Rho} (g : GC S G Fs n X W) (h : PGs X es (evGs S L ft)) (hl : TgtLen ft es.length) (hp : es.all plainX = true) : PG X (.Tuple es k pos) (evG S L ft) := by
  obtain ⟨h1, h2⟩ := asg_len (env := X.env) hp
  refine pgI (pg_tup g.calm h h1 h2) fun v σ H Q ⟨ι, ρ, m, d, rs, M, rd, p⟩ => ?_
  by_cases hd : ∃ ds, d = .tup ds ∧ ds.length = es.length
  · obtain ⟨ds, rfl, hk⟩ := hd
    cases rd with
    | tup ha r => exact ⟨_, _, rfl, by rw [g.hK]; exact ha, by rw [← r.len, hk], ι, ρ, m, ds, rs, M, r, p⟩
  · rw [hl d ρ m fun ds e q => hd ⟨ds, e, q⟩] at p
    exact False.elim p
theorem set_ok {ι : Nat → Addr} {m : Mem} {H : Hp} {E : XK} {x y d : D} {o i v : V} {Q : Unit → (Nat → Addr) → Mem → Hp → Prop} {R : Hp → Prop} (M : RepM S ι H m) (rx : RepV S ι m.nx H x o) (ry : RepV S ι m.nx H y i) (rd : RepV S ι m.nx H d v)
    (p : PostG S ι m H E (setItemF x y d m) Q) (k : ∀ m1 H1, Step S ι m H ι m1 H1 → Q () ι m1 H1 → R H1) : rSetL o i v H R := by
  cases rx with
  | @ref n hn =>
    cases ry with
    | int j =>
      have p : PostG S ι m H E (match m.get n with
        | some (.lst ds) => (match L2.ixN ds.length j with | some z => .ok () (m.put n (.lst (ds.set z d))) | none => .bad)
        | _ => .bad) Q := p
      cases e : m.get n with
      | none => rw [e] at p; exact False.elim p
      | some u =>
        rw [e] at p
        cases u with
        | lst ds =>
          have p : PostG S ι m H E (match L2.ixN ds.length j with | some z => .ok () (m.put n (.lst (ds.set z d))) | none => .bad) Q := p
          obtain ⟨vs, h, r⟩ := M.ob n _ e
          cases e2 : L2.ixN ds.length j with
          | none => rw [e2] at p; exact False.elim p
          | some z =>
            rw [e2] at p
            have T := Step.put_lst M e (r.set z rd)
            exact ⟨_, vs, j, z, rfl, rfl, h, by rw [← r.len]; exact e2, k _ _ T (p _ _ T)⟩
        | _ => exact False.elim p
    | _ => exact False.elim p
  | _ => cases ry <;> exact False.elim p
theorem g_sub {o i : Expr} (ho : PE X o (evE S W fa)) (hi : PE X i (evE S W fb)) (hm : ∀ a b c p, i ≠ .Slice a b c p) : PG X (.Subscript o i pos) (evG S [] (tsubM fa fb)) := by
  refine pgI (pg_sub ho hi set_list (fun v => by cases i <;> first | rfl | exact absurd rfl (hm _ _ _ _))) fun v σ H Q ⟨ι, ρ, m, d, rs, M, rd, p⟩ => ?_
  have p := noX_of (E' := fun c d H' => W c d σ H') p
  refine evE_then rs M p fun x xv ι1 m1 H1 rs1 M1 T1 rx p1 => evE_then rs1 M1 p1 fun y yv ι2 m2 H2 rs2 M2 T2 ry p2 => ?_
  refine set_ok M2 (T2.repV M1 rx) ry (T2.repV M1 (T1.repV M rd)) p2.bind fun m3 H3 T3 ⟨M3, _, q⟩ => ?_
  exact PostG.ok M3 q _ (T3.repS M2 rs2) Out1.refl
end
/-! ## walks -/
def Out.onMem {α : Type} (f : Mem → Mem) : Out α → Out α
  | .ok a m => .ok a (f m)
  | .exc x m => .exc x (f m)
  | .bad => .bad
theorem onMem_id {α : Type} (o : Out α) : o.onMem (fun m => m) = o := by cases o <;> rfl
theorem onMem_onMem {α : Type} (f g : Mem → Mem) (o : Out α) : (o.onMem f).onMem g = o.onMem fun m => g (f m) := by cases o <;> rfl
theorem holdL_eq {α : Type} {n : Nat} {m : Mem} {f : MV α} {ds : List D} (h : m.lst n = some ds) : holdL n f m = (f (hold1 n m)).onMem (back1 n m) := by
  unfold Mem.lst at h
  unfold holdL hold1 back1
  cases e : m.get n with
  | none => rw [e] at h; cases h
  | some o =>
    cases o with
    | lst es =>
      dsimp only
      cases f (m.put n (.rol es)) <;> rfl
    | rol es => exact (onMem_id _).symm
    | kol es => exact (onMem_id _).symm
    | scr es => exact (onMem_id _).symm
    | ins k fs => rw [e] at h; cases h
section
variable {S : Sta} {ι : Nat → Addr} {m : Mem} {H : Hp}
theorem onSrc_eq {α : Type} {s : Src} {J : It} {f : List D → MV α} (h : SrcOk S ι m H s J) : onSrc s f m = (f s.ds (s.mem m)).onMem (s.back m) := by
  have h := h.good
  cases s with
  | items ds => exact (onMem_id _).symm
  | held n ds =>
    obtain ⟨xs, e⟩ := h
    exact holdL_eq e
  | held2 n k ds =>
    obtain ⟨⟨xs, e⟩, ys, e2⟩ := h
    show holdL n (holdL k (f ds)) m = _
    rw [holdL_eq e, holdL_eq (hold_lst.trans e2), onMem_onMem]
    rfl
theorem back_nx {s : Src} {m' : Mem} : (s.back m m').nx = m'.nx := by
  cases s with
  | items ds => rfl
  | held n ds => exact back1_nx
  | held2 n k ds => exact back1_nx.trans back1_nx
theorem step_mem {s : Src} (M : RepM S ι H m) : Step S ι m H ι (s.mem m) H := by
  cases s with
  | items ds => exact Step.refl M
  | held n ds => exact step_hold1 n M
  | held2 n k ds => exact (step_hold1 n M).trans (step_hold1 k (step_hold1 n M).mem)
theorem step_back {s : Src} {ι' : Nat → Addr} {m' : Mem} {H' : Hp} (M : RepM S ι H m) (T : Step S ι (s.mem m) H ι' m' H') : Step S ι m H ι' (s.back m m') H' := by
  cases s with
  | items ds => exact T
  | held n ds => exact step_back1 M T
  | held2 n k ds => exact step_back1 M (step_back1 (step_hold1 n M).mem T)
/-- what stands behind stood before -/
theorem get_back1 {n k : Nat} {m' : Mem} {o : O} (e : (back1 n m m').get k = some o) (i : o.inH = true) : ∃ o', (m'.get k = some o' ∧ o'.inH = true) ∨ (k = n ∧ m.get k = some o') := by
  unfold back1 at e
  split at e
  · rename_i es he
    rw [get_put] at e
    split at e
    · rename_i hkn
      exact ⟨_, .inr ⟨hkn, by rw [hkn]; exact he⟩⟩
    · exact ⟨o, .inl ⟨e, i⟩⟩
  · exact ⟨o, .inl ⟨e, i⟩⟩
theorem get_back {s : Src} {k : Nat} {m' : Mem} {o : O} (M : RepM S ι H m) (e : (s.back m m').get k = some o) (i : o.inH = true) (hk : ¬ k < m.nx) : ∃ o', m'.get k = some o' ∧ o'.inH = true := by
  cases s with
  | items ds => exact ⟨o, e, i⟩
  | held n ds =>
    obtain ⟨o', h | ⟨_, h⟩⟩ := get_back1 e i
    · exact ⟨o', h⟩
    · exact absurd (M.lt k _ h) hk
  | held2 n j ds =>
    obtain ⟨o', ⟨h, h'⟩ | ⟨_, h⟩⟩ := get_back1 e i
    · obtain ⟨o2, h2 | ⟨_, h2⟩⟩ := get_back1 h h'
      · exact ⟨o2, h2⟩
      · have := (step_hold1 n M).mem.lt k _ h2
        have e2 : (hold1 n m).nx = m.nx := by unfold hold1; split <;> rfl
        rw [e2] at this
        exact absurd this hk
    · exact absurd (M.lt k _ h) hk
end
end Ev

set_option Elab.async false
set_option linter.all false
set_option maxRecDepth 100000
set_option maxHeartbeats 4000000
namespace Ev
open PySem PySem.Spec PyProof.Rows L2
/-! ## comprehensions -/
theorem getR_wipe {ρ : Rho} {i : Nat} {d : D} : ∀ {vs : List Nat}, getR (wipeR ρ vs) i = some d → getR ρ i = some d ∧ i ∉ vs
  | [], h => ⟨h, by simp⟩
  | v :: vs, h => by
    have key : ∀ (r : Rho) (v i : Nat), getR (r.set v none) i = some d → getR r i = some d ∧ i ≠ v := by
      intro r
      induction r with
      | nil => intro v i h; cases h
      | cons x r ih =>
        intro v i h
        cases v with
        | zero => cases i with
          | zero => cases h
          | succ i => exact ⟨h, by simp⟩
        | succ v => cases i with
          | zero => exact ⟨h, by simp⟩
          | succ i =>
            obtain ⟨a, b⟩ := ih v i h
            exact ⟨a, by omega⟩
    obtain ⟨h1, h2⟩ := key _ _ _ h
    obtain ⟨h3, h4⟩ := getR_wipe h1
    exact ⟨h3, by simp only [List.mem_cons, not_or]; exact ⟨h2, h4⟩⟩
theorem wipeR_len (ρ : Rho) : ∀ vs : List Nat, (wipeR ρ vs).length = ρ.length
  | [] => rfl
  | v :: vs => by unfold wipeR; rw [List.length_set, wipeR_len ρ vs]
theorem wipe_not {σ : L2.St} {i : Nat} : ∀ {vs : List Nat}, i ∉ vs → (wipe σ vs)[i]? = σ[i]?
  | [], _ => rfl
  | v :: vs, h => by
    simp only [List.mem_cons, not_or] at h
    unfold wipe
    rw [List.getElem?_set_ne (fun e => h.1 e.symm), wipe_not h.2]
theorem wipe_in {σ : L2.St} {i : Nat} : ∀ {vs : List Nat}, i ∈ vs → i < σ.length → (wipe σ vs)[i]? = some none
  | v :: vs, h, hl => by
    unfold wipe
    by_cases e : v = i
    · rw [e]; exact List.getElem?_set_self (by rw [wipe_length]; exact hl)
    · rw [List.getElem?_set_ne e]
      rcases List.mem_cons.mp h with z | z
      · exact absurd z.symm e
      · exact wipe_in z hl
theorem wipe_out {σ σ' : L2.St} {L vs : List Nat} (o : Out1 L (wipe σ vs) σ') (h : ∀ i ∈ L, i ∈ vs) : wipe σ' vs = wipe σ vs := by
  have hl : σ'.length = σ.length := by rw [o.len, wipe_length]
  apply List.ext_getElem?
  intro i
  by_cases hi : i ∈ vs
  · by_cases hk : i < σ.length
    · rw [wipe_in hi hk, wipe_in hi (by rw [hl]; exact hk)]
    · rw [List.getElem?_eq_none (by rw [wipe_length, hl]; omega), List.getElem?_eq_none (by rw [wipe_length]; omega)]
  · rw [wipe_not hi, o.out i fun z => hi (h i z)]
section
variable {S : Sta} {G : Glo} {Fs : Fns} {n : Nat} {X : Cx} {W : WX}
theorem RepS.wipe {ι : Nat → Addr} {nx : Nat} {H : Hp} {ρ : Rho} {σ : L2.St} (r : RepS S ι nx H ρ σ) (vs : List Nat) : RepS S ι nx H (wipeR ρ vs) (L2.wipe σ vs) :=
  ⟨by rw [wipeR_len, wipe_length]; exact r.len, fun i d h => by
    obtain ⟨h1, h2⟩ := getR_wipe h
    obtain ⟨v, a, b⟩ := r.at_ i d h1
    exact ⟨v, by rw [wipe_not h2]; exact a, b⟩⟩
abbrev W0 : WX := fun _ _ _ _ => False
theorem takes0' {X : Cx} : Takes X W0 := takes0
/-- a block of the same def -/
theorem GC.blk (g : GC S G Fs n X W) (s : Shared) (H : Hp) (scope : Scope) (cenv : PySem.Env) (fp : List Addr) (hc : cenv.code = X.env.code := by rfl) (hq : cenv.qual = X.env.qual := by rfl) : GC S G Fs n (X.blk s H scope cenv fp) W0 :=
  ⟨g.n8, g.nd, g.calm, g.room, g.guard, g.hK, takes0', g.gl, g.bl, g.kp, fun k ds m h => ⟨(g.fns k ds m h).ex⟩, fun k ds m h => ⟨(g.lns k ds m h).ex⟩, g.sup, g.xf, g.xk, g.xe, fun x hs d h => ⟨(g.mt x hs d h).1, by
    have e := (g.mt x hs d h).2.ex
    rw [← hc, ← hq] at e
    exact ⟨e⟩⟩, g.kl, fun h => by
    have e := (g.lm h).ex
    rw [← hc, ← hq] at e
    exact ⟨e⟩, g.h5⟩
/-- nothing of the store lies at D -/
def NotAt (D : Addr) (ι : Nat → Addr) (m : Mem) : Prop := ∀ k o, m.get k = some o → o.inH = true → ι k ≠ D
theorem NotAt.step {D : Addr} {u : HO} {ι ι' : Nat → Addr} {m m' : Mem} {H H' : Hp} (h : NotAt D ι m) (hD : H D = some u) (hu : isT u = false) (T : Step S ι m H ι' m' H') : NotAt D ι' m' := fun k o e i z => by
  by_cases hk : k < m.nx
  · obtain ⟨o', e', i'⟩ := T.sub k o hk e i
    exact h k o' e' i' (by rw [← T.ext k hk]; exact z)
  · have := T.new k o (Nat.le_of_not_lt hk) e i u (by rw [z]; exact hD)
    rw [hu] at this
    cases this
theorem NotAt.keep {D : Addr} {u : HO} {ι ι' : Nat → Addr} {m m' : Mem} {H H' : Hp} (h : NotAt D ι m) (hD : H D = some u) (hu : isT u = false) (T : Step S ι m H ι' m' H') : H' D = some u :=
  T.keep D u hD hu fun k ⟨ds, e, w⟩ z => h k _ e (isW_inH w) z
theorem up_at {D : Addr} {xs ys : List V} {H : Hp} (hD : H D = some (.lst xs)) : ∀ a u, H a = some u → isFx u = true → upd H D (.lst ys) a = some u := fun a u h hu => by
  rw [upd_ne (fun e => ?_)]
  · exact h
  · rw [e, hD] at h
    rw [← Option.some.inj h] at hu
    cases hu
/-- the list at D, which is not of the store, is written -/
theorem Step.side {D : Addr} {xs ys : List V} {ι ι' : Nat → Addr} {m m' : Mem} {H H' : Hp} (T : Step S ι m H ι' m' H') (hn : NotAt D ι' m') (h0 : H D = none) (hD : H' D = some (.lst xs)) : Step S ι m H ι' m' (upd H' D (.lst ys)) where
  nx := T.nx
  ext := T.ext
  new := T.new
  sub := T.sub
  subw := T.subw
  keep := fun b o h t w => by rw [upd_ne (ne_of_none h h0)]; exact T.keep b o h t w
  there := fun b o h t => by
    rw [upd_ne (ne_of_none h h0)]
    exact T.there b o h t
  mem := ⟨T.mem.lt, fun k o e => (T.mem.ob k o e).up (up_at hD) (fun _ _ => rfl) (Nat.le_refl _) (fun i => upd_ne (hn k o e i)), T.mem.inj, tabs_up T.mem.tabs fun b o h hu => by rw [upd_ne (fun e => by rw [e, hD] at h; exact isTab_lst hu xs (Option.some.inj h).symm)]; exact h⟩
/-- it comes into the store -/
theorem Step.adopt {D : Addr} {vs : List V} {ds : List Ev.D} {ι ι' : Nat → Addr} {m m' : Mem} {H H' : Hp} (T : Step S ι m H ι' m' H') (hn : NotAt D ι' m') (h0 : H D = none) (hD : H' D = some (.lst vs)) (r : RepVs S ι' m'.nx H' ds vs) : Step S ι m H (bump ι' m'.nx D) (m'.new (.lst ds)) H' := by
  have old : ∀ k o, k ≠ m'.nx → (m'.new (.lst ds)).get k = some o → m'.get k = some o := fun k o hk e => by rw [look_new, if_neg hk] at e; exact e
  have hι : ∀ k, k < m'.nx → bump ι' m'.nx D k = ι' k := fun k h => bump_ne (Nat.ne_of_lt h)
  refine ⟨Nat.le_succ_of_le T.nx, fun k h => by rw [hι k (Nat.lt_of_lt_of_le h T.nx)]; exact T.ext k h, fun k o h e i => ?_, fun k o h e i => T.sub k o h (old k o (by have := T.nx; omega) e) i, fun k h ⟨es, e, w⟩ => T.subw k h ⟨es, old k _ (by have := T.nx; omega) e, w⟩, T.keep, T.there, fun k o e => ?_, fun k o e => ?_, fun k k' o o' e e' i i' z => ?_, T.mem.tabs⟩
  · by_cases hk : k = m'.nx
    · rw [hk, bump_same]
      intro u q
      rw [h0] at q
      cases q
    · rw [bump_ne hk]; exact T.new k o h (old k o hk e) i
  · by_cases hk : k = m'.nx
    · rw [hk]; exact Nat.lt_succ_self _
    · exact Nat.lt_succ_of_lt (T.mem.lt k o (old k o hk e))
  · by_cases hk : k = m'.nx
    · rw [look_new, if_pos hk] at e
      cases e
      rw [hk, bump_same]
      exact ⟨vs, hD, r.up (fun a u h _ => h) hι (Nat.le_succ _)⟩
    · rw [bump_ne hk]
      exact (T.mem.ob k o (old k o hk e)).up (fun a u h _ => h) hι (Nat.le_succ _) (fun _ => rfl)
  · by_cases hk : k = m'.nx <;> by_cases hk' : k' = m'.nx
    · rw [hk, hk']
    · rw [hk, bump_same, bump_ne hk'] at z
      exact absurd z.symm (hn k' o' (old k' o' hk' e') i')
    · rw [hk', bump_same, bump_ne hk] at z
      exact absurd z (hn k o (old k o hk e) i)
    · rw [bump_ne hk, bump_ne hk'] at z
      exact T.mem.inj k k' o o' (old k o hk e) (old k' o' hk' e') i i' z
theorem noX_ok {α : Type} {o : Out α} {a : α} {m : Mem} (h : noX o = .ok a m) : o = .ok a m := by
  cases o with
  | ok b m' => exact h
  | _ => cases h
/-- a comprehension's loop that comes through: one turn -/
theorem compL_ok {asg : D → MV Rho} {tst : Rho → MV Bool} {elt : Rho → MV D} : ∀ {ds acc res : List D} {m mf : Mem}, compL asg tst elt ds acc m = .ok res mf → acc.length ≤ res.length ∧ (match ds with
    | [] => res = acc.reverse ∧ mf = m
    | d :: r => ∃ ρ m1 b m2, asg d m = .ok ρ m1 ∧ tst ρ m1 = .ok b m2 ∧ (match b with
      | true => ∃ x m3, elt ρ m2 = .ok x m3 ∧ compL asg tst elt r (x :: acc) m3 = .ok res mf
      | false => compL asg tst elt r acc m2 = .ok res mf))
  | [], acc, res, m, mf, h => by
    cases h
    exact ⟨by rw [List.length_reverse]; exact Nat.le_refl _, rfl, rfl⟩
  | d :: r, acc, res, m, mf, h => by
    unfold compL at h
    obtain ⟨ρ, m1, h1, h⟩ := bind_ok h
    obtain ⟨b, m2, h2, h⟩ := bind_ok h
    cases b with
    | true =>
      obtain ⟨x, m3, h3, h⟩ := bind_ok h
      have := (compL_ok h).1
      exact ⟨by rw [List.length_cons] at this; omega, ρ, m1, true, m2, h1, h2, x, m3, h3, h⟩
    | false => exact ⟨(compL_ok h).1, ρ, m1, false, m2, h1, h2, h⟩
theorem lc_go {own : List (Str × Nat)} {L : List Nat} {ft : D → Rho → MV Rho} {fs : Rho → MV Src} {fc fe : Rho → MV D} (hL : ∀ i ∈ L, i ∈ own.map (·.2)) {σ : L2.St} {H : Hp} {Q : VK} (w : evE S W (compM (own.map (·.2)) ft fs fc fe) σ H Q) :
    tLc (evI S W fs) (evG S L ft) (evB S W0 (testM fc)) (evE S W0 fe) (own.map (·.2)) σ H Q := by
  obtain ⟨ι, ρ, m, rs, M, p⟩ := w
  refine ⟨ι, ρ, m, rs, M, p.bind.imp fun src ι1 m1 H1 T1 ⟨M1, _, q⟩ J hJ D hD => ?_⟩
  generalize hvs : own.map (·.2) = vs at *
  have rs1 := T1.repS M rs
  -- the outcome
  rw [onSrc_eq hJ] at q
  obtain ⟨res, mf, hres⟩ : ∃ res mf, compL (fun d m => ft d (wipeR ρ vs) m) (testM fc) fe src.ds [] (src.mem m1) = .ok res mf := by
    cases e : compL (fun d m => ft d (wipeR ρ vs) m) (testM fc) fe src.ds [] (src.mem m1) with
    | ok res mf => exact ⟨res, mf, rfl⟩
    | exc x mf => rw [e] at q; exact False.elim q
    | bad => rw [e] at q; exact False.elim q
  rw [hres] at q
  have q : PostG S ι1 m1 H1 (fun c d H' => W c d σ H') (newL res (src.back m1 mf)) fun d ι' m' H' => ∀ v, RepV S ι' m'.nx H' d v → Q v H' := q
  have hz : res.length ≤ 16000000 := by
    unfold newL at q
    cases e : Nat.ble res.length 16000000 with
    | true => exact Nat.le_of_ble_eq_true e
    | false => rw [e] at q; exact False.elim q
  have q2 : ∀ ι' H', Step S ι1 m1 H1 ι' ((src.back m1 mf).new (.lst res)) H' → ∀ v, RepV S ι' ((src.back m1 mf).new (.lst res)).nx H' (.ref (src.back m1 mf).nx) v → Q v H' := by
    unfold newL at q
    rw [show Nat.ble res.length 16000000 = true from Nat.ble_eq_true_of_le hz] at q
    exact q
  have T0 := Step.laid (step_mem (s := src) M1).mem hD (u := .lst [])
  -- the invariant
  let P : Nat → Hp → Prop := fun i Hc => i ≤ src.ds.length ∧ ∃ ι' m' acc xs, Step S ι1 (src.mem m1) H1 ι' m' Hc ∧ NotAt D ι' m' ∧ Hc D = some (.lst xs) ∧ RepVs S ι' m'.nx Hc acc.reverse xs ∧ compL (fun d m => ft d (wipeR ρ vs) m) (testM fc) fe (src.ds.drop i) acc m' = .ok res mf
  have start : P 0 (upd H1 D (.lst [])) := ⟨Nat.zero_le _, ι1, src.mem m1, [], [], T0, fun k o e i z => (((step_mem (s := src) M1).mem).ob k o e).hin i (by rw [z]; exact hD), upd_same, .nil, hres⟩
  refine ⟨fun i k Hc => k = src.ds.length - i ∧ P i Hc, ⟨src.ds.length, by simp, start⟩, ?_⟩
  rintro i k Hc ⟨rfl, hi, ι', m', acc, xs, T, nD, hDc, r, hc⟩
  have wk := hJ.walk _ _ _ T i
  by_cases hlt : i < src.ds.length
  · refine .inr ⟨(wk.1 hlt).1, P (i + 1), fun H' p' => ⟨src.ds.length - (i + 1), by omega, rfl, p'⟩, fun x Hx y => ?_⟩
    obtain ⟨Tx, d, hd, rd⟩ := (wk.1 hlt).2 x Hx y
    have hDc := nD.keep hDc rfl Tx
    have r := Tx.repVs T.mem r
    have nD := nD.step ‹_› rfl Tx
    have T := T.trans Tx
    have hdrop : src.ds.drop i = d :: src.ds.drop (i + 1) := by
      rw [List.drop_eq_getElem_cons hlt]
      have : src.ds[i] = d := by
        have h2 := List.getElem?_eq_getElem hlt
        rw [h2] at hd
        exact Option.some.inj hd
      rw [this]
    rw [hdrop] at hc
    obtain ⟨hacc, ρ1, m3, b, m4, e1, e2, e3⟩ := compL_ok hc
    have Tm := step_mem (s := src) M1
    have rsc : RepS S ι' m'.nx Hx (wipeR ρ vs) (L2.wipe σ vs) := ((Tm.trans T).repS M1 rs1).wipe vs
    refine ⟨ι', wipeR ρ vs, m', d, rsc, T.mem, rd, ?_⟩
    rw [e1]
    refine fun ι3 H3 T3 σ2 rs2 o2 => ⟨wipe_out o2 hL, ι3, ρ1, m3, rs2, T3.mem, ?_⟩
    rw [e2]
    refine fun ι4 H4 T4 => ?_
    have T34 := T3.trans T4
    cases b with
    | false =>
      have hD4 := nD.keep hDc rfl T34
      exact ⟨by omega, ι4, m4, acc, xs, T.trans T34, nD.step hDc rfl T34, hD4, T34.repVs T.mem r, e3⟩
    | true =>
      obtain ⟨y, m5, e3, e4⟩ := e3
      refine ⟨ι4, ρ1, m4, T4.repS T3.mem rs2, T4.mem, ?_⟩
      rw [e3]
      refine fun ι5 H5 T5 yv ry => ?_
      have T35 := T34.trans T5
      have hD5 := nD.keep hDc rfl T35
      have r5 := T35.repVs T.mem r
      have nD5 := nD.step hDc rfl T35
      have hsz := (compL_ok e4).1
      refine ⟨xs, hD5, ?_, by omega, ι5, m5, y :: acc, xs ++ [yv], (T.trans T35).side nD5 hD hD5, nD5, upd_same, ?_, e4⟩
      · have h1 := r.len
        rw [List.length_reverse] at h1
        rw [List.length_cons] at hsz
        rw [← h1, sizeLine_eq]
        omega
      · rw [List.reverse_cons]
        exact (r5.app (.cons ry .nil)).up (up_at hD5) (fun _ _ => rfl) (Nat.le_refl _)
  · have e : i = src.ds.length := by omega
    refine .inl ⟨wk.2 (by omega), ?_⟩
    rw [e, List.drop_length] at hc
    obtain ⟨_, hr, hm⟩ := compL_ok hc
    rw [hr, hm] at q2
    have TB := step_back (s := src) M1 T
    have nB : NotAt D ι' (src.back m1 m') := by
      intro k o e i z
      by_cases hk : k < m1.nx
      · obtain ⟨o', e', i'⟩ := TB.sub k o hk e i
        rw [TB.ext k hk] at z
        exact (M1.ob k o' e').hin i' (by rw [z]; exact hD)
      · obtain ⟨o', e', i'⟩ := get_back M1 e i hk
        exact nD k o' e' i' z
    have r' : RepVs S ι' (src.back m1 m').nx Hc acc.reverse xs := by rw [back_nx]; exact r
    have A := TB.adopt nB hD hDc r'
    have rv : RepV S (bump ι' (src.back m1 m').nx D) ((src.back m1 m').new (.lst acc.reverse)).nx Hc (.ref (src.back m1 m').nx) (.ref (bump ι' (src.back m1 m').nx D (src.back m1 m').nx)) := .ref (Nat.lt_succ_self _)
    rw [bump_same] at rv
    exact q2 _ _ A _ rv
theorem s_comp {elt tg iter : Expr} {ifs : List Expr} {scope : Scope} {own : List (Str × Nat)} {pos : Pos} {L : List Nat} {ft : D → Rho → MV Rho} {fs : Rho → MV Src} {fc fe : Rho → MV D} (g : GC S G Fs n X W)
    (hi : PI X tg iter (evI S W fs)) (ok : BlkOk X.N X.env.scope scope own) (hL : ∀ i ∈ L, i ∈ own.map (·.2))
    (hg : ∀ (s : Shared) (H : Hp) (C : Addr) (cl : List (Str × Addr)) (fp : List Addr), PG (X.blk s H scope (compEnvC scope cl C X.env) fp) tg (evG S L ft))
    (ht : ∀ (s : Shared) (H : Hp) (C : Addr) (cl : List (Str × Addr)) (fp : List Addr), PTs (X.blk s H scope (compEnvC scope cl C X.env) fp) ifs (evB S W0 (testM fc)))
    (he : ∀ (s : Shared) (H : Hp) (C : Addr) (cl : List (Str × Addr)) (fp : List Addr), PE (X.blk s H scope (compEnvC scope cl C X.env) fp) elt (evE S W0 fe))
    (hs : ∀ x, foldedSetIterable iter X.env x = pure x) : PE X (.ListComp elt [⟨tg, iter, ifs, 0⟩] scope pos) (evE S W (compM (own.map (·.2)) ft fs fc fe)) := by
  exact peI (pe_lc g.calm g.nd hi ok hg ht he hs) fun σ H Q w => lc_go hL w
end
end Ev

set_option Elab.async false
set_option linter.all false
set_option maxRecDepth 100000
set_option maxHeartbeats 1000000
namespace Ev
open PySem PySem.Spec PyProof.Rows L2

/-! ## a def that meets errors -/
section
variable {S : Sta} {G : Glo} {Fs : Fns} {n : Nat} {X : Cx} {W : WX}
theorem crepr (hK : X.K = S.K) (hg : X.A.guards = some []) (hu : X.A.units + 100 < cLine) : CallR X (.builtin "repr") (rcM S (bltF .repr)) := by
  intro pins s σ H vs us Q I r ⟨ι, m, E, ds, M, rv, p⟩
  obtain ⟨d, x, rfl, rd, p⟩ := one_ok rv p
  obtain ⟨z, hz, p⟩ := some_ok p
  obtain ⟨c, hc', q⟩ := PostG.opt M p
  obtain ⟨e2, rfl⟩ := guardO_some hc'
  rw [Bool.and_eq_true] at e2
  obtain ⟨h1, h2⟩ := toPy_sh M hz rd
  exact repr_ok hg hu pins s σ H _ us Q I r ⟨x, z, rfl, by rw [hK]; exact h1, h2, e2.1, le_line (Nat.le_of_ble_eq_true e2.2), q _ (.str _)⟩
/-- the context of the def that is called -/
abbrev metCx (X : Cx) (Ng : List Str) (x : Str) (sg : Scope) (g : Addr) (cdg : Value) (s : Shared) (H : Hp) : Cx := (cxOf C8.CX0 X.prog X.w X.K X.mg X.base Ng x sg g cdg X.A X.stack s H C8.E0).nox
/-- what is known of an error of the lambda's body -/
def EcM (S : Sta) (G : Glo) (hs : List Hd) (Q : VK) : XK := fun cls dd H' => ∃ ι' m' x E', RepX S ι' m'.nx H' x cls dd ∧ RepM S ι' H' m' ∧ x.cls < G.xn ∧
  PostG S ι' m' H' E' (hdM x m' hs) fun d ι2 m2 H2 => ∀ v, RepV S ι2 m2.nx H2 d v → Q v H2
theorem names_of (g : GC S G Fs n X W) {Ng : List Str} {x cx : Str} {sg : Scope} {ga : Addr} {cdg : Value} {s : Shared} {H : Hp} {k : Nat} {b : Bool} (hg : glB sg cx = true) (hd : nodun cx = true) (hx : G.x cx = some (k, b)) : Names (metCx X Ng x sg ga cdg s H) cx (.ref (S.ca k)) := by
  obtain ⟨_, xo⟩ := g.xk cx k b hx
  simp only [nodun, Bool.and_eq_true, Bool.not_eq_true'] at hd
  refine ⟨?_, hd.1.1, .inl xo.mg⟩
  unfold glB at hg
  split at hg
  · rename_i e; exact e
  · cases hg
theorem ix_slot {Ng : List Str} {nm : Str} {i : Nat} (h : ixOf nm Ng 0 = some i) : i < Ng.length := by
  have := ixOf0 h
  rw [List.getElem?_eq_some_iff] at this
  exact this.1
theorem clauses_ok (g : GC S G Fs n X W) {Ng : List Str} {x : Str} {sg : Scope} {ga : Addr} {cdg : Value} {s : Shared} {H : Hp} (hu : (X.A.deeper (envOfC x sg s.heap.objs.size ga cdg)).units + 100 < cLine) : ∀ {hds : List ExceptHandler} {hs : List Hd}, trHds G Ng sg hds = some hs → ∃ l, TrM.ClOk (metCx X Ng x sg ga cdg s H) hds l ∧
    ∀ {Q : VK} {cls : Value} {dd : Option Addr} {σ' : L2.St} {H' : Hp}, EcM S G hs Q cls dd H' → ∀ D : Ends, D.rt = Q → TrM.wAny X.K Ng.length (fun _ _ _ _ => False) D l cls dd σ' H'
  | [], hs, h => by
    cases h
    exact ⟨[], .nil, fun ⟨_, _, _, _, _, _, _, p⟩ _ _ => p⟩
  | hd :: hds, hs, h => by
    obtain ⟨a, ha, h⟩ := Option.bind_eq_some_iff.mp h
    obtain ⟨r, hr, h⟩ := Option.bind_eq_some_iff.mp h
    cases h
    obtain ⟨l, hl, ih⟩ := clauses_ok g (x := x) (ga := ga) (cdg := cdg) (s := s) (H := H) hu hr
    unfold trHd at ha
    split at ha
    · rename_i cx p1 z j p2 p3 p4
      obtain ⟨hc, ha⟩ := onB_some ha
      obtain ⟨kb, hk, ha⟩ := Option.bind_eq_some_iff.mp ha
      cases ha
      obtain ⟨k, b⟩ := kb
      rw [Bool.and_eq_true] at hc
      refine ⟨⟨.ref (S.ca k), none, fun _ _ _ => tRet (tC (.str z))⟩ :: l, .cons (names_of g hc.1 hc.2 hk) trivial (fun a oe cls d pn _ _ => pss_one (ps_ret pe_str)) hl, fun {Q cls dd σ' H'} ⟨ι', m', e, E', rx, M, hlt, p⟩ D hD => ?_⟩
      refine ⟨Nat.beq e.cls k, by rw [rx.1]; exact g.xe _ _ hlt (g.xk cx k b hk).1, fun hb a _ _ => ?_, fun hb => ih ⟨ι', m', e, E', rx, M, hlt, ?_⟩ D hD⟩
      · have p : PostG S ι' m' H' E' (match Nat.beq e.cls k with | true => .ok (.str z) m' | false => hdM e m' r) _ := p
        rw [hb] at p
        show D.rt _ _
        rw [hD]
        exact PostG.ok M p _ (.str z)
      · have p : PostG S ι' m' H' E' (match Nat.beq e.cls k with | true => .ok (.str z) m' | false => hdM e m' r) _ := p
        rw [hb] at p
        exact p
    · rename_i cx p1 nm z j p2 rp p3 n' p4 f p5 p6 p7 p8 p9
      obtain ⟨hc, ha⟩ := onB_some ha
      obtain ⟨i, hi, ha⟩ := Option.bind_eq_some_iff.mp ha
      obtain ⟨kb, hk, ha⟩ := Option.bind_eq_some_iff.mp ha
      obtain ⟨hkb, ha⟩ := onB_some ha
      cases ha
      obtain ⟨k, b⟩ := kb
      simp only [Bool.and_eq_true, decide_eq_true_eq] at hc hkb
      obtain ⟨⟨⟨⟨⟨⟨⟨c1, c2⟩, rfl⟩, c3⟩, c4⟩, rfl⟩, c5⟩, c6⟩ := hc
      obtain ⟨rfl, rfl⟩ := hkb
      have xo := (g.xk cx k true hk).2
      obtain ⟨⟨B, newId, initId, bmB, fI, O⟩, XF⟩ := xo.own rfl
      have hno : PySem.W.findIn X.K (.ref (S.ca k)) (G.xf k) = some none := by rw [← g.xf k]; exact O.no
      simp only [nodun, Bool.and_eq_true, Bool.not_eq_true'] at c6
      have c3' : sg.names.lookup ("repr" : Str) = some .globalImplicit := by
        unfold glB at c3
        split at c3
        · assumption
        · cases c3
      have suite : ∀ (a : Addr) (oe : Obj) (cls : Value) (d : Option Addr) (pn : List (Addr × Obj)), Zc cls d oe → (∃ vs, oe.data = .fields vs) →
          PSs ((metCx X Ng x sg ga cdg s H).suite a ((a, oe) :: pn)) [.Return (some (.BinOp (.Constant (.str z) j p2) .Add (.Call (.Name "repr" p3) [.Attribute (.Name n' p4) (G.xf k) p5] [] p6) p7)) p8]
            (tRet (tOp (r2M S (binF .add)) (tC (.str z)) (tCB (rcM S (bltF .repr)) (tCons (tXf a cls d (S.ca k) (G.xf k) (tVar i)) tNil)))) := fun a oe cls d pn hz hdv =>
        pss_one (ps_ret (pe_op (ob (X := (metCx X Ng x sg ga cdg s H).suite a ((a, oe) :: pn)) g.hK .add) pe_str (pe_callB (crepr (X := (metCx X Ng x sg ga cdg s H).suite a ((a, oe) :: pn)) g.hK g.guard hu) c3' (g.bl _ c4) (by decide +kernel) (pa_cons (pe_xf XF hno hz hdv (pe_var (ixOf0 hi) (.inl (locB_ok c5)) c6.1.1 c6.1.2)) pa_nil))))
      refine ⟨⟨.ref (S.ca k), some i, fun a cls d => tRet (tOp (r2M S (binF .add)) (tC (.str z)) (tCB (rcM S (bltF .repr)) (tCons (tXf a cls d (S.ca k) (G.xf k) (tVar i)) tNil)))⟩ :: l,
        .cons (names_of g c1 c2 hk) ⟨ixOf0 hi, locB_ok c5⟩ suite hl, fun {Q cls dd σ' H'} ⟨ι', m', e, E', rx, M, hlt, p⟩ D hD => ?_⟩
      refine ⟨Nat.beq e.cls k, by rw [rx.1]; exact g.xe _ _ hlt (g.xk cx k true hk).1, fun hb a _ hlen => ?_, fun hb => ih ⟨ι', m', e, E', rx, M, hlt, ?_⟩ D hD⟩
      · have p : PostG S ι' m' H' E' (match Nat.beq e.cls k with
          | true => (match e.arg with | [d] => (reprF d m').bind fun y m1 => binF .add (.str z) y m1 | _ => .bad)
          | false => hdM e m' r) _ := p
        rw [hb] at p
        have hek := Nat.eq_of_beq_eq_true hb
        obtain ⟨rc, rx⟩ := rx
        cases ea : e.arg with
        | nil => rw [ea] at p; exact False.elim p
        | cons d ds =>
          cases ds with
          | cons => rw [ea] at p; exact False.elim p
          | nil =>
            rw [ea] at p rx
            obtain ⟨da, fs, v, hdd, hfs, hl, rv⟩ := rx
            rw [hek, g.xf k] at hl
            have hsl : (σ'.set i (some (V.ref a)))[i]? = some (some (V.ref a)) := List.getElem?_set_self (by rw [hlen]; exact ix_slot hi)
            subst hD
            refine ⟨V.ref a, hsl, rfl, by rw [rc, hek], da, fs, v, hdd, hfs, hl, ?_⟩
            refine ⟨ι', m', _, [d], M, .cons rv .nil, (PostG.bind (o := reprF d m') (f := fun y m1 => binF .add (.str z) y m1) p).imp fun y ι2 m2 H2 T2 ⟨M2, _, q⟩ w rw => ?_⟩
            exact ⟨ι2, m2, _, .str z, y, M2, .str z, rw, q⟩
      · have p : PostG S ι' m' H' E' (match Nat.beq e.cls k with
          | true => (match e.arg with | [d] => (reprF d m').bind fun y m1 => binF .add (.str z) y m1 | _ => .bad)
          | false => hdM e m' r) _ := p
        rw [hb] at p
        exact p
    · cases ha
def flatV : D → V
  | .bl b => .bl b
  | .int i => .int i
  | .str s => .str s
  | _ => .non
theorem constD_rep {S : Sta} {c : Const} {d : D} (h : constD c = some d) : (∀ X : Cx, ∀ j pos, PE X (.Constant c j pos) (tC (flatV d))) ∧ ∀ ι nx H, RepV S ι nx H d (flatV d) := by
  cases c <;> cases h
  · exact ⟨fun _ _ _ => pe_non, fun _ _ _ => .non⟩
  · exact ⟨fun _ _ _ => pe_bl, fun _ _ _ => .bl _⟩
  · exact ⟨fun _ _ _ => pe_int, fun _ _ _ => .int _⟩
  · exact ⟨fun _ _ _ => pe_str, fun _ _ _ => .str _⟩
/-- the reading of the def's body, its thunk's reading told -/
def TTm (S : Sta) (G : Glo) (hs : List Hd) (d : D) : (XK → Hp → VK → Prop) → Hp → VK → Prop := fun tl H Q => tl (EcM S G hs Q) H fun _ H' => Q (flatV d) H'
theorem met_gives (g : GC S G Fs n X W) {Ng : List Str} {x a q : Str} {sg : Scope} {ga : Addr} {cdg : Value} {bg : List Stmt} {hs : List Hd} {d : D} (nd : Ng.Nodup) (h0 : Ng[0]? = some a) (h : metShape G Ng sg a bg = some (hs, d)) : TrM.GivesG X Ng x sg ga cdg bg a q (TTm S G hs d) := by
  unfold metShape at h
  split at h
  · rename_i a' p1 p2 p3 hd hds p4 c j p5 p6
    obtain ⟨ea, h2⟩ := onB_some h
    clear h
    have ea := of_decide_eq_true ea
    subst ea
    obtain ⟨hs', hh, h2⟩ := Option.bind_eq_some_iff.mp h2
    obtain ⟨d', hd', h2⟩ := Option.bind_eq_some_iff.mp h2
    cases h2
    intro f c' s H Q tl act hc hr ht
    obtain ⟨l, hl, hw⟩ := clauses_ok g (x := x) (sg := sg) (ga := ga) (cdg := cdg) (s := s) (H := H) (by have := hr.un; omega) hh
    refine ⟨_, pss_cons (TrM.ps_try_any (X := metCx X Ng x sg ga cdg s H) (tb := fun W D σ H => ∃ Ech : XK, (∀ cls d σ' H', Ech cls d H' → W cls d σ' H') ∧ σ[0]? = some (some (.ref f)) ∧ H c' = some (LamX.CodeO c' q) ∧ tl Ech H (fun _ H' => D.nx σ H'))
      rfl rfl nd LamX.takes0 (fun W pn xe tk _ => ?_) hl) (pss_one (ps_ret ((constD_rep (S := S) hd').1 _ _ _))), ?_⟩
    · refine ⟨fun pins s' σ H' D I ⟨Ech, hW, h1, h2, h3⟩ => ?_⟩
      exact (pss_one (ps_expr (pos := p3) (act W pn xe Ech p1 p2 tk hW))).run pins s' σ H' D I ⟨h1, h2, h3⟩
    · refine ⟨EcM S G hs Q, fun cls dd σ' H' e => hw e _ rfl, ?_, hc, ht⟩
      cases Ng with
      | nil => cases h0
      | cons y r => rfl
  · cases h
theorem metShape_rep {S : Sta} {Ng : List Str} {sg : Scope} {a : Str} {bg : List Stmt} {hs : List Hd} {d : D} (h : metShape G Ng sg a bg = some (hs, d)) : ∀ ι nx H, RepV S ι nx H d (flatV d) := by
  unfold metShape at h
  split at h
  · obtain ⟨_, h2⟩ := onB_some h
    obtain ⟨_, _, h2⟩ := Option.bind_eq_some_iff.mp h2
    obtain ⟨_, hd', h2⟩ := Option.bind_eq_some_iff.mp h2
    cases h2
    exact (constD_rep hd').2
  · cases h
/-- the context of a lambda's body -/
theorem GC.lam (g : GC S G Fs n X W) (h5 : 5 ≤ n) {A : Around} {outer : List PySem.Env} {s : Shared} {H : Hp} {E : XK} {scope : Scope} {f c' : Addr} (hgu : A.guards = X.A.guards) (hr : Room (n - 2) (A.deeper (LamX.lamEnv X scope s.heap.objs.size f c'))) :
    GC S { G with m := fun _ => none, l := false, h := false } Fs.low (n - 2) (LamX.lamCx X A outer s H E scope f c') (fun cls d _ H => E cls d H) :=
  ⟨by omega, g.nd, rfl, hr, hgu.trans g.guard, g.hK, takes_of rfl rfl rfl rfl, g.gl, g.bl, g.kp, fun k ds m h => ⟨(g.lns k ds m h).ex⟩, fun k ds m h => absurd rfl h, g.sup, g.xf, g.xk, g.xe, (fun x hs d h => by cases h), g.kl, (fun h => by cases h), fun h => by cases h⟩
theorem step_ext {ι : Nat → Addr} {m : Mem} {H H1 : Hp} (M : RepM S ι H m) (eN : LamX.ExtN H H1) (T1 : LamX.Tabs S.tb H1) : Step S ι m H ι m H1 := by
  refine ⟨Nat.le_refl _, fun _ _ => rfl, fun k o h e _ => absurd (M.lt k o e) (Nat.not_lt.mpr h), fun k o _ e i => ⟨o, e, i⟩, fun _ _ h => h, fun b o h t _ => eN b o h (fun ps z => by rw [z] at t; cases t), fun b o h t => ⟨o, eN b o h (fun ps z => by rw [z] at t; cases t), t⟩,
    ⟨M.lt, fun k o e => (M.ob k o e).up (fun a u h t => eN a u h (fun ps z => by rw [z] at t; cases t)) (fun _ _ => rfl) (Nat.le_refl _) (fun i => ?_), M.inj, T1⟩⟩
  have hr := M.ob k o e
  cases o with
  | lst ds =>
    obtain ⟨vs, h, _⟩ := hr
    rw [h]
    exact eN _ _ h fun ps z => by cases z
  | rol ds =>
    obtain ⟨vs, h, _⟩ := hr
    rcases h with h | ⟨ob, h⟩ <;> (rw [h]; exact eN _ _ h fun ps z => by cases z)
  | kol ds => cases i
  | scr ns => cases i
  | ins k fs =>
    obtain ⟨dx, vs, h, _⟩ := hr
    rcases h with ⟨h, _⟩ | ⟨h, _⟩ <;> (rw [h]; exact eN _ _ h fun ps z => by first | cases z | (unfold SlX.SlO at z; cases z))
theorem s_met (g : GC S G Fs n X W) {x : Str} {hs : List Hd} {d : D} {params : Arguments} {body : Expr} {scope : Scope} {p lpos pos : Pos} {fb : Rho → MV D} (hm : G.m x = some (hs, d)) (hg : Gl X x) (hd : nodun x = true) (L : LamX.LamS X.env.scope scope) (hdef : defaultsOf params X.env = ([], []))
    (hbind : ∀ (q : Str) (cl : List (Str × Addr)) (pm cv ctv : Value), bindArgs (PySem.W.kla_fn "<lambda>" q params body scope cl pm cv ctv) ⟨[], []⟩ = pure [])
    (hbody : ∀ (A : Around) (outer : List PySem.Env) (s : Shared) (H : Hp) (E : XK) (f c' : Addr), GC S { G with m := fun _ => none, l := false, h := false } Fs.low (n - 2) (LamX.lamCx X A outer s H E scope f c') (fun cls d _ H => E cls d H) → PE (LamX.lamCx X A outer s H E scope f c') body (evE S (fun cls d _ H => E cls d H) fb)) :
    PE X (.Call (.Name x p) [.Lambda params body scope lpos] [] pos) (evE S W (metM G.xn hs d fb)) := by
  obtain ⟨h5, ⟨ga, c, P, a, Ng, pg, bg, sg, dV, kV, doc, pm, cdv, ct, oc, an, od, osl, m1, m2, m3, m4, m5, m6, m7, m8, m9, m10, m11, m12, m13, m14⟩⟩ := g.mt x hs d hm
  simp only [nodun, Bool.and_eq_true, Bool.not_eq_true'] at hd m9
  have nd : Ng.Nodup := m6.nd
  refine peI (TrM.lamcall_g (T := S.tb) (k := n - 2) (TT := TTm S G hs d) (t := fun E => evE S (fun cls d _ H => E cls d H) fb) hg m1 m2 m3 m4 m5 m6 m7 (vis_ok m8) (met_gives g nd m7 m10) m11 m12 m13 m14 (g.room.mono (by omega)) (by omega) L hdef hbind
    (fun A outer s H E f c' hgu hr => hbody A outer s H E f c' (g.lam h5 hgu hr)) hd.1.1 m9.1.1 m9.1.2) fun σ H Q ⟨ι, ρ, m, rs, M, pp⟩ => ⟨M.tabs, fun H1 eN T1 => ?_⟩
  have st : Step S ι m H ι m H1 := ⟨Nat.le_refl _, fun _ _ => rfl, fun k o h e _ => absurd (M.lt k o e) (Nat.not_lt.mpr h), fun k o _ e i => ⟨o, e, i⟩, fun _ _ h => h, fun b o h t _ => eN b o h (fun ps z => by rw [z] at t; cases t), fun b o h t => ⟨o, eN b o h (fun ps z => by rw [z] at t; cases t), t⟩,
    ⟨M.lt, fun k o e => (M.ob k o e).up (fun a u h t => eN a u h (fun ps z => by rw [z] at t; cases t)) (fun _ _ => rfl) (Nat.le_refl _) (fun i => ?_), M.inj, T1⟩⟩
  · refine ⟨ι, ρ, m, st.repS M rs, st.mem, ?_⟩
    have pp := PostG.step st pp
    unfold metM at pp
    cases e : fb ρ m with
    | ok d' m' =>
      rw [e] at pp
      exact fun ι' H' T v rv => pp ι' H' T _ (metShape_rep m10 _ _ _)
    | exc x m' =>
      rw [e] at pp
      have pp : PostG S ι m H1 _ (match Nat.blt x.cls G.xn with | true => hdM x m' hs | false => .bad) _ := pp
      cases hb : Nat.blt x.cls G.xn with
      | false => rw [hb] at pp; exact False.elim pp
      | true =>
        rw [hb] at pp
        exact fun ι' H' cls dd T rx => ⟨ι', m', x, _, rx, T.mem, Nat.le_of_ble_eq_true hb, PostG.step T pp⟩
    | bad => rw [e] at pp; exact pp
  · have hr := M.ob k o e
    cases o with
    | lst ds =>
      obtain ⟨vs, h, _⟩ := hr
      rw [h]
      exact eN _ _ h fun ps z => by cases z
    | rol ds =>
      obtain ⟨vs, h, _⟩ := hr
      rcases h with h | ⟨ob, h⟩ <;> (rw [h]; exact eN _ _ h fun ps z => by cases z)
    | kol ds => cases i
    | scr ns => cases i
    | ins k fs =>
      obtain ⟨dx, vs, h, _⟩ := hr
      rcases h with ⟨h, _⟩ | ⟨h, _⟩ <;> (rw [h]; exact eN _ _ h fun ps z => by first | cases z | (unfold SlX.SlO at z; cases z))
theorem s_emp {pos : Pos} : PE X (.Dict [] [] pos) (evE S W fun _ => okk .emp) := peI pe_dnewK fun σ H Q ⟨ι, ρ, m, rs, M, p⟩ q hq => by
  have T := Step.laid M hq (u := .dK [])
  exact PostG.ok T.mem (PostG.step T p) _ (.emp upd_same)
/-! ### a < b < c < d -/
section
variable {a b c e : Expr} {fa fb fc fd : Rho → MV D} {pos : Pos}
theorem chain3_go (o1 o2 o3 : COp) {σ : L2.St} {H : Hp} {Q : VK} (w : evE S W (chain3M o1 o2 o3 fa fb fc fd) σ H Q) : TrM.tChain3 (r2M S (cmpM o1)) (r2M S (cmpM o2)) (r2M S (cmpM o3)) (evE S W fa) (evE S W fb) (evE S W fc) (evE S W fd) σ H Q := by
  obtain ⟨ι, ρ, m, rs, M, p⟩ := w
  refine evE_then rs M p fun d v ι1 m1 H1 rs1 M1 T1 rv p1 => evE_then rs1 M1 p1 fun e u ι2 m2 H2 rs2 M2 T2 ru p2 => ⟨ι2, m2, _, d, e, M2, T2.repV M1 rv, ru, p2.bind.imp fun r ι3 m3 H3 T3 ⟨M3, _, q⟩ w rw => ?_⟩
  obtain ⟨t, rfl, q⟩ := sel_ok (m1 := m3) q
  cases rw
  refine ⟨t, rfl, ?_⟩
  cases t with
  | false => exact PostG.ok M3 q _ (.bl _)
  | true =>
    refine evE_then (T3.repS M2 rs2) M3 q fun z y ι4 m4 H4 rs4 M4 T4 ry q4 => ⟨ι4, m4, _, e, z, M4, T4.repV M3 (T3.repV M2 ru), ry, q4.bind.imp fun r2 ι5 m5 H5 T5 ⟨M5, _, q5⟩ w2 rw2 => ?_⟩
    obtain ⟨t2, rfl, q5⟩ := sel_ok (m1 := m5) q5
    cases rw2
    refine ⟨t2, rfl, ?_⟩
    cases t2 with
    | false => exact PostG.ok M5 q5 _ (.bl _)
    | true => exact evE_then (T5.repS M4 rs4) M5 q5 fun z6 y6 ι6 m6 H6 rs6 M6 T6 ry6 q6 => ⟨ι6, m6, _, z, z6, M6, T6.repV M5 (T5.repV M4 ry), ry6, q6⟩
theorem s_chain3 (g : GC S G Fs n X W) (o1 o2 o3 : COp) (ha : PE X a (evE S W fa)) (hb : PE X b (evE S W fb)) (hc : PE X c (evE S W fc)) (hd : PE X e (evE S W fd)) (hm : ∀ es k p, e ≠ .Set es k p) : PE X (.Compare a [o1.py, o2.py, o3.py] [b, c, e] pos) (evE S W (chain3M o1 o2 o3 fa fb fc fd)) :=
  peI (TrM.pe_chain3 (oc g.hK (by have := g.units; omega) o1) (oc g.hK (by have := g.units; omega) o2) (oc g.hK (by have := g.units; omega) o3) ha hb hc hd (mark_of hm)) fun σ H Q w => chain3_go o1 o2 o3 w
theorem t_chain3 (g : GC S G Fs n X W) (o1 o2 o3 : COp) (ha : PE X a (evE S W fa)) (hb : PE X b (evE S W fb)) (hc : PE X c (evE S W fc)) (hd : PE X e (evE S W fd)) (hm : ∀ es k p, e ≠ .Set es k p) : PT X (.Compare a [o1.py, o2.py, o3.py] [b, c, e] pos) (evB S W (testM (chain3M o1 o2 o3 fa fb fc fd))) := by
  refine ptI (TrM.pt_chain3 (oc g.hK (by have := g.units; omega) o1) (oc g.hK (by have := g.units; omega) o2) (oc g.hK (by have := g.units; omega) o3) ha hb hc hd (mark_of hm)) fun σ H Q w => ?_
  have w := evE_bool w
  exact chain3_go o1 o2 o3 w
end
theorem par_def {ps : Arguments} (h : noPar ps = true) (env : PySem.Env) : defaultsOf ps env = ([], []) := by
  unfold noPar at h
  split at h
  · rfl
  · cases h
theorem par_bind {ps : Arguments} {body : Expr} {scope : Scope} (h : noPar ps = true) (q : Str) (cl : List (Str × Addr)) (pm cv ctv : Value) : bindArgs (PySem.W.kla_fn "<lambda>" q ps body scope cl pm cv ctv) ⟨[], []⟩ = pure [] := by
  unfold noPar at h
  split at h
  · first | rfl | simp [bindArgs, PySem.W.kla_fn]
  · cases h
end
end Ev

set_option Elab.async false
set_option linter.all false
set_option maxRecDepth 100000
set_option maxHeartbeats 4000000
namespace Ev
open PySem PySem.Spec PyProof.Rows L2

/-! ## instances of classes with slots -/
section
variable {S : Sta} {G : Glo} {Fs : Fns} {n : Nat} {X : Cx} {W : WX} {a b c : Expr} {es : List Expr} {fa fb fc : Rho → MV D} {pos : Pos}
theorem lkp_mem {k i : Nat} : ∀ {L : List (Nat × Nat)}, lkp k L = some i → (k, i) ∈ L
  | (j, i') :: r, h => by
    have h : (match Nat.beq k j with | true => some i' | false => lkp k r) = some i := h
    cases e : Nat.beq k j with
    | true =>
      rw [e] at h
      cases h
      rw [Nat.eq_of_beq_eq_true e]
      exact List.mem_cons_self ..
    | false => rw [e] at h; exact List.mem_cons_of_mem _ (lkp_mem h)
def iscB (L : List (Nat × Nat)) (ds : List D) : MV D := fun m => two ds fun a t => match t with
  | .cls _ => iscF L a m
  | _ => .bad
theorem isc_call {L : List (Nat × Nat)} {k : Nat} (hK : X.K = S.K) (h1 : ∀ u : Ty, PySem.W.kitOne X.K (.type u.nm) (.ref (S.cl k)) = some false) (h2 : ∀ q, q ∈ L → SlX.SCls X.K (S.cl q.1) ∧ SlX.SIsi X.K (S.cl q.1) ∧ PySem.W.kitOne X.K (.ref (S.cl q.1)) (.ref (S.cl k)) = some (Nat.beq q.2 1)) :
    CallR X (.builtin "isinstance") fun xs H Q => ∃ ι m E d x, RepM S ι H m ∧ xs = [x, .ref (S.cl k)] ∧ RepV S ι m.nx H d x ∧ PostG S ι m H E (iscF L d m) fun d ι' m' H' => ∀ v, RepV S ι' m'.nx H' d v → Q v H' := by
  rintro pins s σ H xs us Q I r ⟨ι, m, E, d, x, M, rfl, rd, p⟩
  have base : PostG S ι m H E (onSome (tyOf m d) fun _ => .ok (.bl false) m) (fun d ι' m' H' => ∀ v, RepV S ι' m'.nx H' d v → Q v H') → wpAny (model X.prog X.w) X.A (call (.builtin "isinstance") us) (EP X pins σ Q) X.xe s := fun p => by
    obtain ⟨u, hu, p⟩ := some_ok p
    exact call_isi pins s σ H _ us Q I r ⟨x, _, _, _, _, rfl, .own _, by rw [hK]; exact tyOf_ok M rd hu, h1 u, PostG.ok M p _ (.bl _)⟩
  cases rd with
  | @ref n hn =>
    have p' : PostG S ι m H E (match m.get n with
      | some (.ins k _) => onSome (lkp k L) fun i => .ok (.bl (Nat.beq i 1)) m
      | _ => onSome (tyOf m (.ref n)) fun _ => .ok (.bl false) m) fun d ι' m' H' => ∀ v, RepV S ι' m'.nx H' d v → Q v H' := p
    cases e : m.get n with
    | none => rw [e] at p'; exact base p'
    | some o =>
      rw [e] at p'
      cases o with
      | ins j fs =>
        have p' : PostG S ι m H E (onSome (lkp j L) fun i => .ok (.bl (Nat.beq i 1)) m) fun d ι' m' H' => ∀ v, RepV S ι' m'.nx H' d v → Q v H' := p'
        obtain ⟨i, hi, p'⟩ := some_ok p'
        obtain ⟨c1, c2, c3⟩ := h2 (j, i) (lkp_mem hi)
        obtain ⟨dx, vs, hs, _⟩ := M.ob n _ e
        exact SlX.call_isiSl (.ref (S.cl k)) pins s σ H _ us Q I r ⟨_, _, dx, vs, _, _, rfl, rfl, fun w z => z, hs, c1, c2, c3, PostG.ok M p' _ (.bl _)⟩
      | _ => exact base p'
  | _ => exact base p
theorem s_isc {x : Str} {p p2 : Pos} {e : Expr} (g : GC S G Fs n X W) (hg : Gl X "isinstance") (hm : X.mg "isinstance" = none) (ha : PE X e (evE S W fa)) (hp : plainX e = true) (hx : Gl X x) (hd : (x == ("__debug__" : Str)) = false) (hne : G.k.i x ≠ []) : PE X (.Call (.Name "isinstance" p) [e, .Name x p2] [] pos) (evE S W (iscM (G.k.i x) fa)) := by
  obtain ⟨q0, hq0⟩ := List.exists_mem_of_ne_nil _ hne
  obtain ⟨k, k1, k2, k3⟩ := g.kl.isi x q0 hq0
  have pc : PE X (.Name x p2) (tC (.ref (S.cl k))) := pe_glob hx k1 rfl hd
  refine peI (pe_callB (isc_call (S := S) (L := G.k.i x) g.hK k2 k3) hg hm (by decide +kernel) (pa_cons ha (pa_cons pc pa_nil (star1 rfl [] X.env)) (star1 hp _ X.env)) (by decide +kernel) (by decide +kernel) (star1 hp _ X.env) (star_any (by rfl))) fun σ H Q ⟨ι, ρ, m, rs, M, w⟩ => ?_
  exact evE_then rs M w fun d v ι1 m1 H1 rs1 M1 T1 rv q => ⟨ι1, m1, _, d, v, M1, rfl, rv, q⟩
theorem ins_ok {ι : Nat → Addr} {m : Mem} {H : Hp} {β : Type} {E : XK} {f : Nat → Nat → List (Option D) → Out β} {g : β → (Nat → Addr) → Mem → Hp → Prop} {d : D} {x : V} (M : RepM S ι H m) (r : RepV S ι m.nx H d x) (p : PostG S ι m H E (onIns m d f) g) :
    ∃ j k fs dx vs, d = .ref j ∧ x = .ref (ι j) ∧ m.get j = some (.ins k fs) ∧ SlX.Slt H (ι j) (S.cl k) dx vs ∧ RepFs S ι m.nx H fs vs ∧ PostG S ι m H E (f j k fs) g := by
  cases r with
  | @ref j hj =>
    have p : PostG S ι m H E (match m.get j with | some (.ins k fs) => f j k fs | _ => .bad) g := p
    cases e : m.get j with
    | none => rw [e] at p; exact False.elim p
    | some o =>
      rw [e] at p
      cases o with
      | ins k fs =>
        obtain ⟨dx, vs, h1, h2⟩ := M.ob j _ e
        exact ⟨j, k, fs, dx, vs, rfl, rfl, e, h1, h2, p⟩
      | _ => exact False.elim p
  | _ => exact False.elim p
/-- o.f -/
theorem fld_go (g : GC S G Fs n X W) {f : Str} {σ : L2.St} {H : Hp} {Q : VK} (w : evE S W (fldM (G.k.f f) fa) σ H Q) : SlX.tSl X.K (evE S W fa) f σ H Q := by
  obtain ⟨ι, ρ, m, rs, M, p⟩ := w
  refine evE_then rs M p fun d v ι1 m1 H1 rs1 M1 T1 rv q => ?_
  obtain ⟨j, k, fs, dx, vs, rfl, rfl, e, h1, h2, q⟩ := ins_ok M1 rv q
  obtain ⟨i, hi, q⟩ := some_ok q
  obtain ⟨y, hy, q⟩ := PostG.opt M1 q
  obtain ⟨u, e1, e2⟩ := h2 i y hy
  obtain ⟨sc, p, s1⟩ := g.kl.fl f _ (lkp_mem hi)
  exact ⟨_, _, dx, p, vs, i, u, rfl, h1, sc, s1, e1, q u e2⟩
theorem s_fld (g : GC S G Fs n X W) {f : Str} (ha : PE X a (evE S W fa)) (hb : attributeBase a f X.env (eval a X.env) = eval a X.env) : PE X (.Attribute a f pos) (evE S W (fldM (G.k.f f) fa)) :=
  peI (SlX.pe_sl ha hb) fun σ H Q w => fld_go g w
/-- C(..) -/
theorem run_mk {ι : Nat → Addr} {m : Mem} {H : Hp} {σ : L2.St} {s : Shared} {pins : List (Addr × Obj)} {Q : VK} {ds : List D} {vs : List V} {us : List Value} {k np j : Nat} (g : GC S G Fs n X W) (h5 : 5 ≤ n) (mk : L2.Mk X.K (S.cl k) (S.fa j)) (I : Inv X pins σ H s) (M : RepM S ι H m) (r : RepVs S ι m.nx H ds vs) (rv : Vals vs us)
    (p : PostG S ι m H (fun c d H' => W c d σ H') ((Fs.L j (.ref m.nx :: ds) (m.new (.ins k (List.replicate np none)))).bind fun r m2 => isNonM r (.ref m.nx) m2) fun d ι' m' H' => ∀ v, RepV S ι' m'.nx H' d v → Q v H') :
    wpAny (model X.prog X.w) X.A (call (.ref (S.cl k)) us) (EP X pins σ Q) X.xe s := by
  have hp : H (s.heap.objs.size + 1) = none := I.hok.fresh (Nat.le_succ _)
  have hd : H s.heap.objs.size = none := I.hok.fresh (Nat.le_refl _)
  have ne : s.heap.objs.size ≠ s.heap.objs.size + 1 := Nat.ne_of_lt (Nat.lt_succ_self _)
  have T := Step.new_ins (k := k) (np := np) M hp hd ne
  have I2 := Inv.made (C := S.cl k) I
  have p2 := PostG.step T p
  have p3 := p2.bind
  obtain ⟨fd, ps, hb, hl, FF⟩ := (g.lns j _ _ (not_bad p3)).ex
  have rx : RepV S (bump ι m.nx (s.heap.objs.size + 1)) (m.nx + 1) (upd (upd H s.heap.objs.size (.own (s.heap.objs.size + 1))) (s.heap.objs.size + 1) (.ins (S.cl k) s.heap.objs.size [])) (.ref m.nx) (.ref (bump ι m.nx (s.heap.objs.size + 1) m.nx)) := .ref (Nat.lt_succ_self _)
  rw [bump_same] at rx
  have r2 := RepVs.cons rx (T.repVs M r)
  have rv2 : Vals (V.ref (s.heap.objs.size + 1) :: vs) (Value.ref (s.heap.objs.size + 1) :: us) := .cons rfl rv
  have len : (V.ref (s.heap.objs.size + 1) :: vs).length = ps.length := by rw [← r2.len]; exact hl _ _ (not_bad p3)
  have bb := hb _ (Value.ref (s.heap.objs.size + 1) :: us) I2.kIn (by rw [List.append_nil, ← rv2.length]; exact len)
  rw [List.append_nil] at bb
  have h : spF S Fs.L j (V.ref (s.heap.objs.size + 1) :: vs) (upd (upd H s.heap.objs.size (.own (s.heap.objs.size + 1))) (s.heap.objs.size + 1) (.ins (S.cl k) s.heap.objs.size [])) (fun v H2 => v = .non ∧ Q (.ref (s.heap.objs.size + 1)) H2) (fun c d H' => W c d σ H') :=
    ⟨_, _, _, r2, T.mem, p3.imp fun d ι3 m3 H3 T3 ⟨M3, _, q⟩ v rd => by
      cases rd with
      | non =>
        have e := T3.ext m.nx (Nat.lt_succ_self _)
        rw [bump_same] at e
        have z : RepV S ι3 m3.nx H3 (.ref m.nx) (.ref (ι3 m.nx)) := .ref (Nat.lt_of_lt_of_le (Nat.lt_succ_self _) T3.nx)
        rw [e] at z
        exact ⟨rfl, PostG.ok M3 q _ z⟩
      | _ => exact False.elim q⟩
  have hr : Room (n - 2) (X.A.under (.builtin "type.__call__" ⟨.ref (S.cl k) :: us, []⟩)) := (g.room.mono (show n - 2 + 1 ≤ n by omega)).make (S.cl k) us []
  refine wpAny_call (make_map (f := S.fa j) I.kIn mk.makes mk.init (beq_iff_eq.mp mk.fn) (codeAny_mono (FF.run _ X.stack _ _ ⟨Value.ref (s.heap.objs.size + 1) :: us, []⟩ (Value.ref (s.heap.objs.size + 1) :: us) _ _ (fun c d H' => W c d σ H') hr g.guard (I2.env0.make (S.cl k) us []) bb rv2 len h) fun r s' hq' => ?_))
  cases r with
  | error e => exact g.tk e s' (XE.of_call I2 (fun _ _ _ z => z) hq')
  | ok fl =>
    cases fl with
    | ret u =>
      obtain ⟨v, H', I3, ru, ev, q3⟩ := I2.after hq'
      subst ev
      exact ⟨ru, ⟨V.ref (s.heap.objs.size + 1), H', I3, rfl, q3⟩⟩
    | next => exact False.elim hq'
    | brk => exact False.elim hq'
    | cont => exact False.elim hq'
theorem s_mk {k np j : Nat} {x : Str} {p : Pos} (g : GC S G Fs n X W) (h5 : 5 ≤ n) (hc : G.k.c x = some (k, np, j)) (hg : Gl X x) (hd : (x == ("__debug__" : Str)) = false) (ha : PA X (a :: es) (evA S W fa)) (hl : TupLen fa (es.length + 1)) (hp : (a :: es).all plainX = true) : PE X (.Call (.Name x p) (a :: es) [] pos) (evE S W (mkM Fs.L k np j fa)) := by
  refine ⟨fun pins s σ H Q I ⟨ι, ρ, m, rs, M, w⟩ => ?_⟩
  rw [List.all_cons, Bool.and_eq_true] at hp
  obtain ⟨hm, mk⟩ := g.kl.mkc x k np j hc
  refine wpAny_Call_Name_kw (ld_glob I hg hm ?_ hd)
  have h : evA S W fa σ H fun vs H1 => ∃ ι m ds, RepM S ι H1 m ∧ RepVs S ι m.nx H1 ds vs ∧ PostG S ι m H1 (fun c d H' => W c d σ H') ((Fs.L j (.ref m.nx :: ds) (m.new (.ins k (List.replicate np none)))).bind fun r m2 => isNonM r (.ref m.nx) m2) fun d ι' m' H' => ∀ v, RepV S ι' m'.nx H' d v → Q v H' :=
    evE_evA (Q := fun _ _ _ _ => True) hl rs M w fun ds vs ι1 m1 H1 hk rs1 M1 T1 r q => ⟨ι1, m1, ds, M1, r, q⟩
  exact PySem.W.callWith_K (h₀ := X.base) I.ok.mod.kin mk.kp (thn (ha.run pos pins s σ H _ I h) fun us s1 ⟨vs, H1, I1, rv, ι1, m1, ds, M1, r, q⟩ => ⟨I1.kIn, run_mk g h5 mk I1 M1 r rv q⟩) (star1 hp.1 es X.env) (star_any hp.2)
/-- o.m(..) -/
theorem pos_of {o : Expr} {apos cpos : Pos} (hl : (apos.endLine == cpos.line) = true) : methodCallPos true o X.env apos cpos = pure cpos := by
  unfold methodCallPos
  rw [hl] <;> rfl
theorem s_mcall {o : Expr} {m : Str} {fo : Rho → MV D} {apos cpos : Pos} (g : GC S G Fs n X W) (ho : PE X o (evE S W fo)) (ha : PA X (a :: es) (evA S W fa)) (hl : TupLen fa (es.length + 1)) (hp : (a :: es).all plainX = true) (hb : attributeBase o m X.env (eval o X.env) = eval o X.env)
    (hform : methodCallForm ((a :: es).length + ([] : List Keyword).length) (backTo cpos (starEach (a :: es) X.env)) (backToKw cpos (keywordEach [] X.env)) = true) (hln : (apos.endLine == cpos.line) = true) : PE X (.Call (.Attribute o m apos) (a :: es) [] cpos) (evE S W (mcallM Fs.F (G.k.m m) fo fa)) := by
  refine ⟨fun pins s σ H Q I ⟨ι, ρ, m0, rs, M, w⟩ => ?_⟩
  rw [List.all_cons, Bool.and_eq_true] at hp
  rw [arm_eval_Call, hb]
  have h := ho.run pins s σ H (fun v H1 => ∃ k j ad dx vs ι1 m1 d, v = .ref ad ∧ SlX.Slt H1 ad (S.cl k) dx vs ∧ (k, j) ∈ G.k.m m ∧ RepS S ι1 m1.nx H1 ρ σ ∧ RepM S ι1 H1 m1 ∧ RepV S ι1 m1.nx H1 d (.ref ad) ∧
      PostG S ι1 m1 H1 (fun c d H' => W c d σ H') ((fa ρ m1).bind fun y m2 => match y with | .tup ds => Fs.F j (d :: ds) m2 | _ => .bad) fun d ι' m' H' => ∀ v, RepV S ι' m'.nx H' d v → Q v H') I
    (evE_then rs M w fun d v ι1 m1 H1 rs1 M1 T1 rv q => by
      obtain ⟨j, k, fs, dx, vs, rfl, rfl, e, h1, h2, q⟩ := ins_ok M1 rv q
      obtain ⟨i, hi, q⟩ := some_ok q
      exact ⟨k, i, _, dx, vs, ι1, m1, _, rfl, h1, lkp_mem hi, rs1, M1, rv, q⟩)
  refine wpAny_bind (thn h fun u s1 ⟨v, H1, I1, r1, k, j, ad, dx, vs, ι1, m1, d, ev, hsl, hm, rs1, M1, rd, q⟩ => ?_)
  subst ev
  obtain rfl : u = Value.ref ad := r1
  obtain ⟨sc, mt⟩ := g.kl.mh m _ hm
  refine wpAny_bind (wpAny_standAt ?_)
  unfold methodCall calleeOf
  rw [hform]
  refine wpAny_bind (wpAny_holding (SlX.getmethsl_ok I1 hsl sc mt ?_))
  rw [pos_of hln]
  refine wpAny_bind (wpAny_pure ?_)
  have hA : evA S W fa σ H1 fun ws H2 => ∃ ι2 m2 ds, RepM S ι2 H2 m2 ∧ RepVs S ι2 m2.nx H2 (d :: ds) (.ref ad :: ws) ∧ PostG S ι2 m2 H2 (fun c d H' => W c d σ H') (Fs.F j (d :: ds) m2) fun d ι' m' H' => ∀ v, RepV S ι' m'.nx H' d v → Q v H' :=
    evE_evA (Q := fun _ _ _ _ => True) hl rs1 M1 q fun ds ws ι2 m2 H2 hk rs2 M2 T2 r q2 => ⟨ι2, m2, ds, M2, .cons (T2.repV M1 rd) r, q2⟩
  exact PySem.W.callWith_K (first := [.ref ad]) (h₀ := X.base) I1.ok.mod.kin mt.kp (thn (ha.run cpos pins s1 σ H1 _ I1 hA) fun us s2 ⟨ws, H2, I2, rw2, ι2, m2, ds, M2, r, q2⟩ => ⟨I2.kIn, run_callee (us := .ref ad :: us) g I2 M2 r (.cons rfl rw2) q2⟩) (star1 hp.1 es X.env) (star_any hp.2)
theorem cx_no {P : Program} {w : World} {outer : List PySem.Env} {H : Hp} {s : Shared} {u : Value} {s' : Shared} {α : Prop} (h : L2.CX P w outer H s (fun _ _ _ => False) u s') : α := by
  obtain ⟨_, _, _, _, _, _, _, _, _, _, _, _, h⟩ := h
  exact h.elim
/-- o.f, a property -/
theorem s_prop (g : GC S G Fs n X W) (h5 : 5 ≤ n) {f : Str} (ha : PE X a (evE S W fa)) (hb : attributeBase a f X.env (eval a X.env) = eval a X.env) : PE X (.Attribute a f pos) (evE S W (fldM (G.k.p f) fa)) := by
  refine ⟨fun pins s σ H Q I ⟨ι, ρ, m0, rs, M, w⟩ => ?_⟩
  have h := ha.run pins s σ H (fun v H1 => ∃ k i ad dx vs y, v = .ref ad ∧ SlX.Slt H1 ad (S.cl k) dx vs ∧ (k, i) ∈ G.k.p f ∧ vs[i]? = some (some y) ∧ Q y H1) I
    (evE_then rs M w fun d v ι1 m1 H1 rs1 M1 T1 rv q => by
      obtain ⟨j, k, fs, dx, vs, rfl, rfl, e, h1, h2, q⟩ := ins_ok M1 rv q
      obtain ⟨i, hi, q⟩ := some_ok q
      obtain ⟨y, hy, q⟩ := PostG.opt M1 q
      obtain ⟨u, e1, e2⟩ := h2 i y hy
      exact ⟨k, i, _, dx, vs, u, rfl, h1, lkp_mem hi, e1, q u e2⟩)
  refine attr_of hb (thn h fun u s1 ⟨v, H1, I1, r1, k, i, ad, dx, vs, y, ev, hsl, hm, hy, q⟩ => ?_)
  subst ev
  obtain rfl : u = Value.ref ad := r1
  obtain ⟨sc, p, gg, hp, go⟩ := g.kl.pr f _ hm
  obtain ⟨oc, od, dV, kV, doc, pm, cdv, ct, an, osl, name, qual, slf, slot, params, scope, p1, p2, p3, pp, lk, hcd, hB, fs, hnd, hvs, s1'⟩ := go.ex
  obtain ⟨sl, od', _, J, _⟩ := SlX.slt_inst I1 hsl
  obtain ⟨rest, hrec⟩ := hp.rec_
  have I2 : Inv X pins σ H1 { s1 with toks := s1.toks + 1 } := I1.tok (s1.toks + 1)
  have hr : Room (n - 2 + 1) X.A.in1 := (g.room.mono (show n - 2 + 1 + 1 ≤ n by omega)).in1
  simp only [nodun, Bool.and_eq_true, Bool.not_eq_true'] at hnd
  have b := hB { s1 with toks := s1.toks + 1 } [.ref ad] I2.kIn rfl
  rw [List.append_nil] at b
  refine PySem.W.get_bind I1.kIn J (PySem.W.plainGet_of (sc.get f)).1 (PySem.W.findObj_data sc.ic hp.at_ hp.get hp.tak) (PySem.W.plainGet_of (sc.get f)).2 (wpAny_call (PySem.W.prop_get (s := { s1 with toks := s1.toks + 1 }) I1.kIn hrec ?_))
  have rc : codeAny (model X.prog X.w) X.A.in1 (.call (.ref gg) ⟨[.ref ad], []⟩) (CR C8.CX0 X.stack X.prog X.w H1 { s1 with toks := s1.toks + 1 } Q C8.E0) { s1 with toks := s1.toks + 1 } :=
    LamX.run_ofS (N := [slf]) (ps := [slf]) (us := [.ref ad]) (vs := [.ref ad]) lk hcd fs hr I2.env0.in1 b (.cons rfl .nil) rfl fun hr' =>
      ⟨_, pss_one (ps_ret (SlX.pe_sl (pe_var (i := 0) rfl (vis_ok hvs) hnd.1.1 hnd.1.2) rfl)), ⟨.ref ad, rfl, ad, _, dx, pp, vs, i, y, rfl, hsl, sc, s1', hy, q⟩⟩
  refine codeAny_mono rc fun r s' hq => ?_
  cases r with
  | error e => exact (show False from hq).elim
  | ok fl =>
    cases fl with
    | ret u =>
      obtain ⟨v, H', I3, rv, q⟩ := I2.after hq
      exact wpAny_of_eq (PySem.W.handedOut_of (handed_of rv)) ⟨v, H', I3, rv, q⟩
    | next => exact False.elim hq
    | brk => exact False.elim hq
    | cont => exact False.elim hq
theorem free_has {scope : Scope} (L : freeOk X.env.scope scope = true) (ok : X.Ok) : ∀ y ∈ scope.names, y.2 = .free → ∃ c, X.env.cells.lookup y.1 = some c := fun y hy e => by
  have h := List.all_eq_true.mp L y hy
  simp only [Bool.or_eq_true, Bool.not_eq_true', decide_eq_true_eq, decide_eq_false_iff_not] at h
  rcases h with (h | h) | h
  · exact absurd e h
  · exact ok.has _ (.inl h)
  · exact ok.has _ (.inr h)
/-- a lambda that is only handed on -/
theorem s_lamv (g : GC S G Fs n X W) (hG : G.l = true) {params : Arguments} {body : Expr} {scope : Scope} {lpos : Pos} (L : freeOk X.env.scope scope = true) (hdef : defaultsOf params X.env = ([], [])) : PE X (.Lambda params body scope lpos) (evE S W fun _ => okk .opq) := by
  refine ⟨fun pins s σ H Q I ⟨ι, ρ, m, rs, M, p⟩ => ?_⟩
  obtain ⟨c, P, m11, m12, m13, m14⟩ := (g.lm hG).ex
  refine LamX.lam_make2 I m11 m12 m13 m14 M.tabs hdef (free_has L I.ok) fun f c' pm' ctv H1 s' I1 eN T1 hf hfn hfr hco => ?_
  have st : Step S ι m H ι m H1 := step_ext M eN T1
  exact ⟨.ref f, H1, I1, rfl, PostG.ok st.mem (PostG.step st p) _ (.opq _)⟩
/-- o.f = .. -/
theorem slt_more {pins : List (Addr × Obj)} {σ : L2.St} {H : Hp} {s : Shared} {ad C dx : Addr} {vs : List (Option V)} (I : Inv X pins σ H s) (h : SlX.Slt H ad C dx vs) : dx ≠ ad ∧ (∃ u, H dx = some u ∧ ((∃ x, u = .own x) ∨ u = .xd [])) ∧ ∀ q, H ad ≠ some (LamX.CodeO ad q) := by
  refine ⟨(SlX.slt_at I h).1, ?_, fun q z => ?_⟩
  · rcases h with ⟨h1, _⟩ | ⟨_, h2⟩
    · obtain ⟨_, _, _, _, _, ho⟩ := ins_get I.hok h1
      exact ⟨_, ho, .inl ⟨_, rfl⟩⟩
    · exact ⟨_, h2, .inr rfl⟩
  · obtain ⟨_, sl, _, e, _⟩ := SlX.slt_at I h
    obtain ⟨⟨oc, ws, t, e2, e3, e4⟩, _, _⟩ := I.hok ad _ z
    rw [e] at e2
    have e5 := Option.some.inj e2
    rw [← e5] at e3
    exact nomatch (show (PySem.W.instObj C dx).data = .fields ws from e3)
theorem pg_fld {o : Expr} {f : Str} {to : TE} (ho : PE X o to) : PG X (.Attribute o f pos) (fun v σ H Q => to σ H fun x H1 => ∃ ad C dx p vs i, x = .ref ad ∧ SlX.Slt H1 ad C dx vs ∧ SlX.SCls X.K C ∧ SlX.Slot1 X.K C f p i ∧
    (dx ≠ ad → (∃ u, H1 dx = some u ∧ ((∃ x, u = .own x) ∨ u = .xd [])) → (∀ q, H1 ad ≠ some (LamX.CodeO ad q)) → Q σ (SlX.slH H1 ad C dx (SlX.putS i v vs)))) := by
  refine ⟨fun pins s σ H v u Q I r h => ?_⟩
  have e : assign (.Attribute o f pos) X.env u = (do
    let ov ← holding [u] (eval o X.env)
    standAt pos.atName
    holding [u, ov] (setAttr ov f u)
    release [u, ov] []) := by first | rfl | unfold assign
  rw [e]
  refine wpAny_bind (wpAny_holding (thn (ho.run pins s σ H _ I h) fun ov s1 ⟨x, H1, I1, r1, ad, C, dx, p, vs, i, ex, hsl, sc, sl, q⟩ => ?_))
  subst ex
  obtain rfl : ov = Value.ref ad := r1
  obtain ⟨m1, m2, m3⟩ := slt_more I1 hsl
  refine wpAny_bind (wpAny_standAt (wpAny_bind (wpAny_holding (SlX.setslot_ok I1 hsl sc sl r fun s2 I2 => ?_))))
  exact wpAny_release ⟨σ, _, I2, q m1 m2 m3⟩
theorem g_fld (g : GC S G Fs n X W) {o : Expr} {f : Str} (ho : PE X o (evE S W fa)) : PG X (.Attribute o f pos) (evG S [] (tfldM (G.k.f f) fa)) := by
  refine pgI (pg_fld ho) fun v σ H Q ⟨ι, ρ, m, d, rs, M, rd, p⟩ => ?_
  have p := noX_of (E' := fun c d H' => W c d σ H') p
  refine evE_then rs M p fun x xv ι1 m1 H1 rs1 M1 T1 rx p1 => ?_
  have p1 : PostG S ι1 m1 H1 (fun c d H' => W c d σ H') ((setfF (G.k.f f) x d m1).bind fun _ m2 => .ok ρ m2) fun ρ' ι' m' H' => ∀ σ', RepS S ι' m'.nx H' ρ' σ' → Out1 [] σ σ' → Q σ' H' := p1
  have p2 : PostG S ι1 m1 H1 (fun c d H' => W c d σ H') (onIns m1 x fun n k fs => (onSome (lkp k (G.k.f f)) fun i => match Nat.blt i fs.length with
      | true => Out.ok () (m1.put n (.ins k (fs.set i (some d))))
      | false => .bad).bind fun _ m2 => .ok ρ m2) fun ρ' ι' m' H' => ∀ σ', RepS S ι' m'.nx H' ρ' σ' → Out1 [] σ σ' → Q σ' H' := by
    unfold setfF onIns at p1
    unfold onIns
    cases rx with
    | @ref j hj =>
      dsimp only at p1 ⊢
      cases e : m1.get j with
      | none => rw [e] at p1; exact p1
      | some o =>
        rw [e] at p1
        cases o <;> exact p1
    | _ => exact p1
  obtain ⟨j, k, fs, dx, vs, rfl, rfl, e, h1, h2, q⟩ := ins_ok M1 rx p2
  cases hi : lkp k (G.k.f f) with
  | none => rw [hi] at q; exact False.elim q
  | some i =>
    rw [hi] at q
    have q : PostG S ι1 m1 H1 (fun c d H' => W c d σ H') ((match Nat.blt i fs.length with
      | true => Out.ok () (m1.put j (.ins k (fs.set i (some d))))
      | false => .bad).bind fun _ m2 => .ok ρ m2) fun ρ' ι' m' H' => ∀ σ', RepS S ι' m'.nx H' ρ' σ' → Out1 [] σ σ' → Q σ' H' := q
    cases hb : Nat.blt i fs.length with
    | false => rw [hb] at q; exact False.elim q
    | true =>
      rw [hb] at q
      obtain ⟨sc, p, s1⟩ := g.kl.fl f _ (lkp_mem hi)
      refine ⟨_, _, dx, p, vs, i, rfl, h1, sc, s1, fun z1 z2 z3 => ?_⟩
      have T2 := Step.put_ins (i := i) M1 e h1 h2 z1 z2 z3 (T1.repV M rd)
      exact q ι1 _ T2 σ (T2.repS M1 rs1) Out1.refl
end
end Ev

set_option Elab.async false
set_option linter.all false
set_option maxRecDepth 100000
set_option maxHeartbeats 4000000
namespace Ev
open PySem PySem.Spec PyProof.Rows L2

/-! ## the language says what the text does: expressions -/
theorem isTrue_ite {M : PySem.Model} {A : Around} {env : PySem.Env} {E : Value → Shared → Prop} {s : Shared} {c a b : Expr} {pos : Pos} {whole : Sem Value} {Q : Bool → Shared → Prop}
    (h : wpAny M A (isTrue c env (eval c env)) (fun t s1 => if t = true then wpAny M A (isTrue a env (eval a env)) Q E s1 else wpAny M A (isTrue b env (eval b env)) Q E s1) E s) : wpAny M A (isTrue (.IfExp c a b pos) env whole) Q E s := by
  show wpAny M A (do if ← isTrue c env (eval c env) then isTrue a env (eval a env) else isTrue b env (eval b env)) Q E s
  refine wpAny_bind (wpAny_mono h (fun t s' h' => ?_) fun _ _ x => x)
  cases t <;> exact h'
section
variable {S : Sta} {G : Glo} {Fs : Fns} {n : Nat} {X : Cx} {W : WX} {pos : Pos}
theorem t_ite {c a b : Expr} {fa fb fc : Rho → MV D} (hc : PT X c (evB S W (testM fc))) (ha : PT X a (evB S W (testM fa))) (hb : PT X b (evB S W (testM fb))) : PT X (.IfExp c a b pos) (evB S W (testM (iteM fc fa fb))) := by
  refine ⟨fun pins s σ H Q I ⟨ι, ρ, m, rs, M, p⟩ => ?_⟩
  have e : testM (iteM fc fa fb) ρ m = (fc ρ m).bind fun x m1 => sel x (testM fa ρ m1) (testM fb ρ m1) := by
    unfold testM iteM
    rw [bind_assoc]
    congr 1
    funext x m1
    rw [sel_bind]
  rw [e] at p
  have h : evB S W (testM fc) σ H fun t H1 => if t = true then evB S W (testM fa) σ H1 Q else evB S W (testM fb) σ H1 Q := by
    refine ⟨ι, ρ, m, rs, M, test_sel (A := testM fa ρ) (B := testM fb ρ) p fun t ι1 m1 H1 T q => ?_⟩
    cases t with
    | true => exact ⟨ι1, ρ, m1, T.repS M rs, T.mem, q⟩
    | false => exact ⟨ι1, ρ, m1, T.repS M rs, T.mem, q⟩
  refine isTrue_ite (thn (hc.run pins s σ H _ I h) fun t s1 ⟨H1, I1, q⟩ => ?_)
  cases t with
  | true => exact ha.run pins s1 σ H1 Q I1 q
  | false => exact hb.run pins s1 σ H1 Q I1 q
def Both (S : Sta) (Fs : Fns) (X : Cx) (W : WX) (e : Expr) (e' : E) : Prop := PE X e (evE S W (den Fs e').e) ∧ PT X e (evB S W (testM (den Fs e').e))
theorem ord {e : Expr} {e' : E} (h : PE X e (evE S W (den Fs e').e)) (he : ∀ whole, isTrue e X.env whole = (do let v ← whole; standAt e.pos; holding [v] (truthy v)) := by intro _; rfl) : Both S Fs X W e e' := ⟨h, t_val h he⟩
def Tr (S : Sta) (Fs : Fns) (X : Cx) (W : WX) (tr : Expr → Option E) : Prop := ∀ e e', tr e = some e' → Both S Fs X W e e'
section
variable {tr : Expr → Option E} (T : Tr S Fs X W tr)
include T
theorem trL_ok : ∀ {es : List Expr} {a : E}, trL tr es = some a → PA X es (evA S W (den Fs a).e) ∧ TupLen (den Fs a).e es.length ∧ es.all plainX = true
  | [], a, h => by cases h; exact ⟨s_nil, tupLen_nil, rfl⟩
  | e :: es, a, h => by
    obtain ⟨hp, h⟩ := onB_some h
    obtain ⟨x, hx, h⟩ := Option.bind_eq_some_iff.mp h
    obtain ⟨y, hy, h⟩ := Option.bind_eq_some_iff.mp h
    cases h
    obtain ⟨h1, h2, h3⟩ := trL_ok hy
    exact ⟨s_cons (T _ _ hx).1 h1 hp, tupLen_cons h2, by rw [List.all_cons, hp, h3] <;> rfl⟩
theorem trB_and : ∀ {vs : List Expr} {a : E}, trB tr .band vs = some a → PE X (.BoolOp .And vs pos) (evE S W (den Fs a).e) ∧ PW X (.BoolOp .And vs pos) (evB S W (testM (den Fs a).e))
  | [], a, h => by cases h
  | [e], a, h => by
    obtain ⟨x, hx, h⟩ := Option.bind_eq_some_iff.mp h
    cases h
    exact ⟨pe_one (T _ _ hx).1, w_and1 (T _ _ hx).2⟩
  | e :: e2 :: es, a, h => by
    obtain ⟨x, hx, h⟩ := Option.bind_eq_some_iff.mp h
    obtain ⟨y, hy, h⟩ := Option.bind_eq_some_iff.mp h
    cases h
    obtain ⟨h1, h2⟩ := trB_and hy
    exact ⟨s_and (T _ _ hx).1 h1, w_and (T _ _ hx).2 h2⟩
theorem trB_or : ∀ {vs : List Expr} {a : E}, trB tr .bor vs = some a → PE X (.BoolOp .Or vs pos) (evE S W (den Fs a).e) ∧ PW X (.BoolOp .Or vs pos) (evB S W (testM (den Fs a).e))
  | [], a, h => by cases h
  | [e], a, h => by
    obtain ⟨x, hx, h⟩ := Option.bind_eq_some_iff.mp h
    cases h
    exact ⟨pe_one (T _ _ hx).1, w_or1 (T _ _ hx).2⟩
  | e :: e2 :: es, a, h => by
    obtain ⟨x, hx, h⟩ := Option.bind_eq_some_iff.mp h
    obtain ⟨y, hy, h⟩ := Option.bind_eq_some_iff.mp h
    cases h
    obtain ⟨h1, h2⟩ := trB_or hy
    exact ⟨s_or (T _ _ hx).1 h1, w_or (T _ _ hx).2 h2⟩
theorem fold_of {e : Expr} (h : isSet e = false) (env : PySem.Env) (x : Value) : foldedSetIterable e env x = pure x := by cases e <;> first | rfl | cases h
theorem notSlice {e : Expr} (h : isSlice e = false) : ∀ a b c p, e ≠ .Slice a b c p := fun a b c p z => by rw [z] at h; cases h
theorem notSet {e : Expr} (h : isSet e = false) : ∀ a b c, e ≠ .Set a b c := fun a b c z => by rw [z] at h; cases h
theorem nob {b : Bool} (h : (!b) = true) : b = false := by cases b <;> first | rfl | cases h
omit T in
theorem trTs_ok {tt : Expr → Option E} (T : ∀ e t, tt e = some t → PG X e (evG S t.slots (den Fs t).t)) : ∀ {es : List Expr} {t : E}, trTs tt es = some t → PGs X es (evGs S t.slots (den Fs t).t) ∧ TgtLen (den Fs t).t es.length ∧ es.all plainX = true
  | [], t, h => by cases h; exact ⟨g_nil, tgtLen_nil, rfl⟩
  | e :: es, t, h => by
    obtain ⟨hp, h⟩ := onB_some h
    obtain ⟨x, hx, h⟩ := Option.bind_eq_some_iff.mp h
    obtain ⟨y, hy, h⟩ := Option.bind_eq_some_iff.mp h
    cases h
    obtain ⟨h1, h2, h3⟩ := trTs_ok T hy
    exact ⟨g_cons (T _ _ hx) h1 hp, tgtLen_cons h2, by rw [List.all_cons, hp, h3] <;> rfl⟩
theorem trT_ok (g : GC S G Fs n X W) {fb : Str → Bool} (hf : ∀ x, fb x = true → X.fn x = true) : ∀ k {e : Expr} {t : E}, trT tr fb G.k.f X.N X.env.scope k e = some t → PG X e (evG S t.slots (den Fs t).t)
  | 0, _, _, h => by cases h
  | k + 1, e, t, h => by
    unfold trT at h
    split at h
    · split at h
      · rename_i e1
        obtain ⟨i, hi, h⟩ := Option.bind_eq_some_iff.mp h
        cases h
        exact g_name g (ixOf0 hi) (.inl e1) (.inr e1)
      · rename_i e1
        obtain ⟨hb, h⟩ := onB_some h
        obtain ⟨i, hi, h⟩ := Option.bind_eq_some_iff.mp h
        cases h
        exact g_name g (ixOf0 hi) (.inr e1) (.inl (hf _ hb))
      · cases h
    · obtain ⟨t1, h1, h⟩ := Option.bind_eq_some_iff.mp h
      cases h
      obtain ⟨h2, h3, h4⟩ := trTs_ok (fun e t z => trT_ok g hf k z) h1
      exact g_tup g h2 h3 h4
    · obtain ⟨hb, h⟩ := onB_some h
      obtain ⟨x, hx, h⟩ := Option.bind_eq_some_iff.mp h
      obtain ⟨y, hy, h⟩ := Option.bind_eq_some_iff.mp h
      cases h
      exact g_sub (T _ _ hx).1 (T _ _ hy).1 (notSlice T (nob T hb))
    · obtain ⟨hb, h⟩ := onB_some h
      obtain ⟨x, hx, h⟩ := Option.bind_eq_some_iff.mp h
      cases h
      exact g_fld g (T _ _ hx).1
    · cases h
theorem val_s {t : E} (h : t.val = true) : (den Fs t).s = (asV (den Fs t).e).s := by cases t <;> first | rfl | cases h
theorem trV_ok (g : GC S G Fs n X W) {tg e : Expr} {t : E} (h : trV tr e = some t) : PI X tg e (evI S W (den Fs t).s) ∧ ∀ x, foldedSetIterable e X.env x = pure x := by
  obtain ⟨hs, h⟩ := onB_some h
  obtain ⟨x, hx, h⟩ := Option.bind_eq_some_iff.mp h
  obtain ⟨hv, h⟩ := onB_some h
  cases h
  exact ⟨by rw [val_s T hv]; exact i_val g (T _ _ hx).1, fold_of T (nob T hs) X.env⟩
omit T in
theorem isTupX_ok {e : Expr} (h : isTupX e = true) : ∃ es k p, e = .Tuple es k p := by
  cases e <;> first | exact ⟨_, _, _, rfl⟩ | cases h
theorem trI_ok (g : GC S G Fs n X W) {tg e : Expr} {t : E} (h : trI tr G X.env.scope (isTupX tg) e = some t) : PI X tg e (evI S W (den Fs t).s) ∧ ∀ x, foldedSetIterable e X.env x = pure x := by
  unfold trI at h
  split at h
  · rename_i f p as q
    split at h
    · rename_i hd
      have hd := of_decide_eq_true hd
      subst hd
      obtain ⟨hb, h⟩ := onB_some h
      rw [Bool.and_eq_true] at hb
      have hg := glB_ok hb.1
      have hm := g.bl _ hb.2
      split at h
      · obtain ⟨hp, h⟩ := onB_some h
        obtain ⟨x, hx, h⟩ := Option.bind_eq_some_iff.mp h
        cases h
        exact ⟨i_rng1 hg hm (T _ _ hx).1 hp, fun _ => rfl⟩
      · obtain ⟨hp, h⟩ := onB_some h
        rw [Bool.and_eq_true] at hp
        obtain ⟨x, hx, h⟩ := Option.bind_eq_some_iff.mp h
        obtain ⟨y, hy, h⟩ := Option.bind_eq_some_iff.mp h
        cases h
        exact ⟨i_rng2 hg hm (T _ _ hx).1 (T _ _ hy).1 hp.1 hp.2, fun _ => rfl⟩
      · obtain ⟨hp, h⟩ := onB_some h
        simp only [Bool.and_eq_true] at hp
        obtain ⟨x, hx, h⟩ := Option.bind_eq_some_iff.mp h
        obtain ⟨y, hy, h⟩ := Option.bind_eq_some_iff.mp h
        obtain ⟨z, hz, h⟩ := Option.bind_eq_some_iff.mp h
        cases h
        exact ⟨i_rng3 hg hm (T _ _ hx).1 (T _ _ hy).1 (T _ _ hz).1 hp.1.1 hp.1.2 hp.2, fun _ => rfl⟩
      · cases h
    · split at h
      · rename_i hd
        have hd := of_decide_eq_true hd
        subst hd
        obtain ⟨hb, h'⟩ := onB_some h
        clear h
        simp only [Bool.and_eq_true] at hb
        have hg := glB_ok hb.1.2
        have hm := g.bl _ hb.2
        obtain ⟨elts, kk, tp, rfl⟩ := isTupX_ok hb.1.1
        have h := h'
        clear h'
        split at h
        · obtain ⟨hp, h⟩ := onB_some h
          obtain ⟨x, hx, h⟩ := Option.bind_eq_some_iff.mp h
          cases h
          exact ⟨i_enum g hg hm (T _ _ hx).1 hp, fun _ => rfl⟩
        · cases h
      · split at h
        · rename_i hd
          have hd := of_decide_eq_true hd
          subst hd
          obtain ⟨hb, h'⟩ := onB_some h
          clear h
          simp only [Bool.and_eq_true] at hb
          have hg := glB_ok hb.1.2
          have hm := g.bl _ hb.2
          obtain ⟨elts, kk, tp, rfl⟩ := isTupX_ok hb.1.1
          have h := h'
          clear h'
          split at h
          · obtain ⟨hp, h⟩ := onB_some h
            rw [Bool.and_eq_true] at hp
            obtain ⟨x, hx, h⟩ := Option.bind_eq_some_iff.mp h
            obtain ⟨y, hy, h⟩ := Option.bind_eq_some_iff.mp h
            cases h
            exact ⟨i_zip g hg hm (T _ _ hx).1 (T _ _ hy).1 hp.1 hp.2, fun _ => rfl⟩
          · cases h
        · exact trV_ok T g h
  · exact trV_ok T g h
end
/-! ### names -/
theorem ty_repS {t : Ty} {ι : Nat → Addr} {nx : Nat} {H : Hp} : RepV S ι nx H (.ty t) (.ty t.nm) := .ty t
theorem nodun_ok {x : Str} (h : nodun x = true) : (x == ("__debug__" : Str)) = false ∧ (x == ("__classdict__" : Str)) = false ∧ x ≠ "__name__" := by
  unfold nodun at h
  simp only [Bool.and_eq_true, Bool.not_eq_true', decide_eq_false_iff_not] at h
  exact ⟨h.1.1, h.1.2, h.2⟩
theorem tyOfN_ok {f : Str} {t : Ty} (h : tyOfN f = some t) : f = Str.ofString t.nm ∧ t ∈ tyAll := by
  have h1 := List.find?_some h
  exact ⟨of_decide_eq_true h1, List.mem_of_find?_eq_some h⟩
theorem trName_ok (g : GC S G Fs n X W) {x : Str} {a : E} (h : trName G X.N X.env.scope x = some a) : PE X (.Name x pos) (evE S W (den Fs a).e) := by
  obtain ⟨hd, h⟩ := onB_some h
  obtain ⟨d1, d2, d3⟩ := nodun_ok hd
  split at h
  · rename_i hv
    obtain ⟨i, hi, h⟩ := Option.bind_eq_some_iff.mp h
    cases h
    exact s_var g (ixOf0 hi) (vis_ok hv) d1 d2
  · obtain ⟨hg, h⟩ := onB_some h
    have hg := glB_ok hg
    split at h
    · rename_i d e
      cases h
      obtain ⟨u, v, h1, h2, h3⟩ := g.gl x d e
      exact s_const (pe_glob hg h1 h2 d1) h3
    · obtain ⟨hb, h⟩ := onB_some h
      have hm := g.bl _ hb
      obtain ⟨t, ht, h⟩ := Option.bind_eq_some_iff.mp h
      cases h
      obtain ⟨e, hmem⟩ := tyOfN_ok ht
      have key : ∃ u, bootBuiltins x = some u ∧ RelV (.ty t.nm) u := by
        subst e
        cases t with
        | nonety => simp [tyAll] at hmem
        | _ => exact ⟨_, rfl, rfl⟩
      obtain ⟨u, h1, h2⟩ := key
      exact s_const (pe_bltn hg hm h1 h2 d3 d1) fun ι nx H => .ty t
theorem nil_of {tr : Expr → Option E} {a : E} (h : trL tr [] = some a) : a = .nil := by cases h; rfl
theorem trCall_ok (g : GC S G Fs n X W) {tr : Expr → Option E} (T : Tr S Fs X W tr) {x : Str} {p : Pos} {es : List Expr} {a c : E} (ha : trL tr es = some a) (h : trCall G X.N X.env.scope x es.length a = some c) : PE X (.Call (.Name x p) es [] pos) (evE S W (den Fs c).e) := by
  obtain ⟨hd, h⟩ := onB_some h
  obtain ⟨d1, d2, d3⟩ := nodun_ok hd
  obtain ⟨pa, hl, hp⟩ := trL_ok T ha
  split at h
  · rename_i hv
    obtain ⟨i, hi, h⟩ := Option.bind_eq_some_iff.mp h
    cases h
    have pv : ∀ pos, PE X (.Name x pos) (evE S W (den Fs (.var i)).e) := fun pos => s_var g (ixOf0 hi) (vis_ok hv) d1 d2
    cases es with
    | nil => rw [nil_of ha]; exact s_callv0 g pv
    | cons e es => exact s_callv g pv pa hl hp
  · obtain ⟨hg, h⟩ := onB_some h
    have hg := glB_ok hg
    split at h
    · rename_i d e
      split at h
      · rename_i k
        cases h
        obtain ⟨u, v, h1, h2, h3⟩ := g.gl x _ e
        have r := h3 (fun _ => 0) 0 (fun _ => none)
        cases r
        cases h2
        cases es with
        | nil => rw [nil_of ha]; exact s_call0 g hg h1 d1
        | cons e es => exact s_call g hg h1 d1 pa hl hp
      · cases h
    · obtain ⟨hb, h⟩ := onB_some h
      rw [Bool.and_eq_true] at hb
      obtain ⟨b, hbl, h⟩ := Option.bind_eq_some_iff.mp h
      cases h
      have e := bltOf_ok hbl
      subst e
      cases es with
      | nil => exact absurd hb.2 (by decide)
      | cons e es => exact s_blt g hg (g.bl _ hb.1) pa hl hp
theorem trP_ok {tr : Expr → Option E} (T : Tr S Fs X W tr) : ∀ {lo : Option Expr} {l : E}, trP tr lo = some l → Part S W X lo (partM l.isNo (den Fs l).e)
  | none, l, h => by cases h; exact part_none
  | some e, l, h => by
    obtain ⟨x, hx, h⟩ := Option.bind_eq_some_iff.mp h
    obtain ⟨hn, h⟩ := onB_some h
    cases h
    have : l.isNo = false := by cases e : l.isNo with | false => rfl | true => rw [e] at hn; cases hn
    rw [this]
    exact part_some (T _ _ hx).1
theorem constD_ok {c : Const} {d : D} {j : Nat} (h : constD c = some d) : PE X (.Constant c j pos) (evE S W fun _ => okk d) := by
  cases c <;> cases h
  · exact s_const pe_non fun _ _ _ => .non
  · exact s_const pe_bl fun _ _ _ => .bl _
  · exact s_const pe_int fun _ _ _ => .int _
  · exact s_const pe_str fun _ _ _ => .str _
theorem def_no {ps : Arguments} (h : noDef ps = true) (env : PySem.Env) : defaultsOf ps env = ([], []) := by
  unfold noDef at h
  split at h
  · rfl
  · cases h
theorem sup_base {o : Expr} {a : Str} {env : PySem.Env} (w : Sem Value) (h : noSup o = true) : attributeBase o a env w = w := by
  unfold attributeBase
  split
  · cases h
  · rfl
theorem trMk_ok (g : GC S G Fs n X W) {tr : Expr → Option E} (T : Tr S Fs X W tr) {x : Str} {p : Pos} {es : List Expr} {a c : E} (ha : trL tr es = some a) (h : trMk G X.env.scope x es.length a = some c) : PE X (.Call (.Name x p) es [] pos) (evE S W (den Fs c).e) := by
  obtain ⟨hc, h⟩ := onB_some h
  simp only [Bool.and_eq_true] at hc
  obtain ⟨⟨k, np, j⟩, hq, h⟩ := Option.bind_eq_some_iff.mp h
  cases h
  obtain ⟨pa, hl, hp⟩ := trL_ok T ha
  cases es with
  | nil => exact absurd hc.2 (by decide)
  | cons e es => exact s_mk g (g.h5 hc.1.1.1) hq (glB_ok hc.1.2) (nodun_ok hc.1.1.2).1 pa hl hp
theorem form_of {es : List Expr} {cpos : Pos} {env : PySem.Env} (hp : es.all plainX = true) (hn : Nat.blt es.length 30 = true) : methodCallForm (es.length + ([] : List Keyword).length) (backTo cpos (starEach es env)) (backToKw cpos (keywordEach [] env)) = true := by
  have h1 := star_any (pos := cpos) (env := env) hp
  have h2 : (backTo cpos (starEach es env)).all (fun x => !x.1) = true := by
    rw [List.all_eq_not_any_not]
    simp only [Bool.not_not]
    rw [h1] <;> rfl
  unfold methodCallForm
  rw [h2]
  have h3 : es.length < 30 := Nat.le_of_ble_eq_true hn
  show (true && true && decide (es.length + 0 + 0 < 30)) = true
  rw [decide_eq_true (by omega)] <;> rfl
theorem trMeth_ok (g : GC S G Fs n X W) {tr : Expr → Option E} (T : Tr S Fs X W tr) {o : Expr} {f : Str} {apos cpos : Pos} {es : List Expr} {x a : E} (h1 : noSup o = true) (h2 : (apos.endLine == cpos.line) = true) (h3 : Nat.blt es.length 30 = true) (h4 : Nat.blt 0 es.length = true)
    (ho : PE X o (evE S W (den Fs x).e)) (ha : trL tr es = some a) : PE X (.Call (.Attribute o f apos) es [] cpos) (evE S W (den Fs (.mcall (G.k.m f) x a)).e) := by
  obtain ⟨pa, hl, hp⟩ := trL_ok T ha
  cases es with
  | nil => exact absurd h4 (by decide)
  | cons e es => exact s_mcall g ho pa hl hp (sup_base _ h1) (form_of hp h3) h2
theorem trE_ok : ∀ k {G : Glo} {Fs : Fns} {n : Nat} {X : Cx} {W : WX}, GC S G Fs n X W → Tr S Fs X W (trE G X.N k X.env.scope)
  | 0, _, _, _, _, _, _, _, _, h => by cases h
  | k + 1, G, Fs, n, X, W, g, e, e', h => by
    have T := trE_ok k g
    unfold trE at h
    split at h
    · obtain ⟨d, hd, h⟩ := Option.bind_eq_some_iff.mp h
      cases h
      exact ord (constD_ok hd)
    · exact ord (trName_ok g h)
    · obtain ⟨hz, h⟩ := onB_some h
      obtain ⟨a, ha, h⟩ := Option.bind_eq_some_iff.mp h
      cases h
      obtain ⟨pa, hl, _⟩ := trL_ok T ha
      exact ord (s_tup pa hl (Nat.le_of_ble_eq_true hz))
    · obtain ⟨a, ha, h⟩ := Option.bind_eq_some_iff.mp h
      cases h
      obtain ⟨pa, hl, _⟩ := trL_ok T ha
      exact ord (s_lst pa hl)
    · cases h
      exact ord s_emp
    · obtain ⟨o, ho, h⟩ := Option.bind_eq_some_iff.mp h
      obtain ⟨x, hx, h⟩ := Option.bind_eq_some_iff.mp h
      obtain ⟨y, hy, h⟩ := Option.bind_eq_some_iff.mp h
      cases h
      rw [opOf_ok ho]
      exact ord (s_bin g o (T _ _ hx).1 (T _ _ hy).1)
    · split at h
      · obtain ⟨x, hx, h⟩ := Option.bind_eq_some_iff.mp h
        cases h
        exact ord (s_neg (T _ _ hx).1)
      · obtain ⟨x, hx, h⟩ := Option.bind_eq_some_iff.mp h
        cases h
        exact ⟨s_not (T _ _ hx).1, t_not (T _ _ hx).2⟩
      · cases h
    · split at h
      · rename_i o b
        obtain ⟨hs, h⟩ := onB_some h
        obtain ⟨x, hx, h⟩ := Option.bind_eq_some_iff.mp h
        obtain ⟨y, hy, h⟩ := Option.bind_eq_some_iff.mp h
        cases h
        rw [copOf_ok o]
        have := notSet T (nob T hs)
        have e : copOf (copOf o).py = copOf o := by cases o <;> rfl
        rw [e]
        exact ⟨s_cmp g _ (T _ _ hx).1 (T _ _ hy).1 this, t_cmp g _ (T _ _ hx).1 (T _ _ hy).1 this⟩
      · rename_i o o' b c
        obtain ⟨hs, h⟩ := onB_some h
        obtain ⟨x, hx, h⟩ := Option.bind_eq_some_iff.mp h
        obtain ⟨y, hy, h⟩ := Option.bind_eq_some_iff.mp h
        obtain ⟨z, hz, h⟩ := Option.bind_eq_some_iff.mp h
        cases h
        have := notSet T (nob T hs)
        have e : ∀ o, copOf (copOf o).py = copOf o := fun o => by cases o <;> rfl
        rw [copOf_ok o, copOf_ok o', e, e]
        exact ⟨s_chain g _ _ (T _ _ hx).1 (T _ _ hy).1 (T _ _ hz).1 this, t_chain g _ _ (T _ _ hx).1 (T _ _ hy).1 (T _ _ hz).1 this⟩
      · rename_i o o' o'' b c d
        obtain ⟨hs, h⟩ := onB_some h
        obtain ⟨x, hx, h⟩ := Option.bind_eq_some_iff.mp h
        obtain ⟨y, hy, h⟩ := Option.bind_eq_some_iff.mp h
        obtain ⟨z, hz, h⟩ := Option.bind_eq_some_iff.mp h
        obtain ⟨w, hw, h⟩ := Option.bind_eq_some_iff.mp h
        cases h
        have := notSet T (nob T hs)
        have e : ∀ o, copOf (copOf o).py = copOf o := fun o => by cases o <;> rfl
        rw [copOf_ok o, copOf_ok o', copOf_ok o'', e, e, e]
        exact ⟨s_chain3 g _ _ _ (T _ _ hx).1 (T _ _ hy).1 (T _ _ hz).1 (T _ _ hw).1 this, t_chain3 g _ _ _ (T _ _ hx).1 (T _ _ hy).1 (T _ _ hz).1 (T _ _ hw).1 this⟩
      · cases h
    · split at h
      · obtain ⟨h1, h2⟩ := trB_and T h
        exact ⟨h1, h2.pt⟩
      · obtain ⟨h1, h2⟩ := trB_or T h
        exact ⟨h1, h2.pt⟩
    · obtain ⟨x, hx, h⟩ := Option.bind_eq_some_iff.mp h
      obtain ⟨y, hy, h⟩ := Option.bind_eq_some_iff.mp h
      obtain ⟨z, hz, h⟩ := Option.bind_eq_some_iff.mp h
      cases h
      exact ⟨s_ite (T _ _ hx).2 (T _ _ hy).1 (T _ _ hz).1, t_ite (T _ _ hx).2 (T _ _ hy).2 (T _ _ hz).2⟩
    · split at h
      · split at h
        · rename_i ps body scope lp
          obtain ⟨hc, h⟩ := onB_some h
          simp only [Bool.and_eq_true] at hc
          obtain ⟨hd, hhd, h⟩ := Option.bind_eq_some_iff.mp h
          obtain ⟨b, hb, h⟩ := Option.bind_eq_some_iff.mp h
          cases h
          exact ord (s_met g hhd (glB_ok hc.1.1.2) hc.1.1.1 (LamX.lamS_by hc.1.2) (par_def hc.2 _) (par_bind hc.2) fun A outer s H E f c' gl => (trE_ok k gl _ _ hb).1)
        · split at h
          · rename_i hc
            rw [Bool.and_eq_true] at hc
            have hx := of_decide_eq_true hc.1
            subst hx
            obtain ⟨hb, h⟩ := onB_some h
            simp only [Bool.and_eq_true] at hb
            obtain ⟨y, hy, h⟩ := Option.bind_eq_some_iff.mp h
            cases h
            have hne : G.k.i _ ≠ [] := fun e => by rw [e] at hc; cases hc.2
            exact ord (s_isc g (glB_ok hb.1.1.1.1) (g.bl _ hb.1.1.1.2) (T _ _ hy).1 hb.2 (glB_ok hb.1.1.2) (nodun_ok hb.1.2).1 hne)
          · obtain ⟨a, ha, h⟩ := Option.bind_eq_some_iff.mp h
            split at h
            · exact ord (trMk_ok g T ha h)
            · exact ord (trCall_ok g T ha h)
        · obtain ⟨a, ha, h⟩ := Option.bind_eq_some_iff.mp h
          split at h
          · exact ord (trMk_ok g T ha h)
          · exact ord (trCall_ok g T ha h)
      · obtain ⟨hc, h⟩ := onB_some h
        simp only [Bool.and_eq_true] at hc
        obtain ⟨x, hx, h⟩ := Option.bind_eq_some_iff.mp h
        obtain ⟨a, ha, h⟩ := Option.bind_eq_some_iff.mp h
        cases h
        exact ord (trMeth_ok g T hc.1.1.1.1 hc.1.1.1.2 hc.1.1.2 hc.1.2 (T _ _ hx).1 ha)
      · cases h
    · obtain ⟨hc, h⟩ := onB_some h
      obtain ⟨x, hx, h⟩ := Option.bind_eq_some_iff.mp h
      split at h
      · cases h
        exact ord (s_fld g (T _ _ hx).1 (sup_base _ hc))
      · obtain ⟨hh, h⟩ := onB_some h
        rw [Bool.and_eq_true] at hh
        cases h
        exact ord (s_prop g (g.h5 hh.1) (T _ _ hx).1 (sup_base _ hc))
    · obtain ⟨hc, h⟩ := onB_some h
      simp only [Bool.and_eq_true] at hc
      cases h
      exact ord (s_lamv g hc.1.1 hc.1.2 (def_no hc.2 _))
    · obtain ⟨x, hx, h⟩ := Option.bind_eq_some_iff.mp h
      split at h
      · cases h
        exact ord (s_rev g (T _ _ hx).1)
      · obtain ⟨y, hy, h⟩ := Option.bind_eq_some_iff.mp h
        obtain ⟨z, hz, h⟩ := Option.bind_eq_some_iff.mp h
        cases h
        exact ord (s_slice g (T _ _ hx).1 (trP_ok T hy) (trP_ok T hz))
      · obtain ⟨hb, h⟩ := onB_some h
        obtain ⟨y, hy, h⟩ := Option.bind_eq_some_iff.mp h
        cases h
        exact ord (s_ix g (T _ _ hx).1 (T _ _ hy).1 fun l u p => notSlice T (nob T hb) l u none p)
    · rename_i elt gens scope q
      split at h
      · rename_i tg iter ifs
        obtain ⟨hb, h⟩ := onB_some h
        obtain ⟨it, hit, h⟩ := Option.bind_eq_some_iff.mp h
        obtain ⟨t, ht, h⟩ := Option.bind_eq_some_iff.mp h
        obtain ⟨hL, h⟩ := onB_some h
        obtain ⟨x, hx, h⟩ := Option.bind_eq_some_iff.mp h
        obtain ⟨hi, hs⟩ := trI_ok T g (tg := tg) hit
        have hL' : ∀ i ∈ t.slots, i ∈ (ownOf X.N scope.names).map (·.2) := fun i hi => by
          have := List.all_eq_true.mp hL i hi
          exact List.contains_iff_mem.mp this
        have key : ∀ (s : Shared) (H : Hp) (C : Addr) (cl : List (Str × Addr)) (fp : List Addr), Tr S Fs (X.blk s H scope (compEnvC scope cl C X.env) fp) W0 (trE G X.N k (relS scope X.env.scope)) := fun s H C cl fp => trE_ok k (g.blk s H scope (compEnvC scope cl C X.env) fp)
        split at h
        · cases h
          exact ord (s_comp (fc := (den Fs .yes).e) g hi (blkOk_by hb) hL' (fun s H C cl fp => trT_ok (key s H C cl fp) (g.blk s H scope (compEnvC scope cl C X.env) fp) (fun _ z => z) 8 ht)
            (fun s H C cl fp => ⟨fun pins s1 σ H1 Q I ⟨ι, ρ, m, rs, M, p⟩ => pts_nil.run pins s1 σ H1 Q I (PostG.ok M p)⟩) (fun s H C cl fp => (key s H C cl fp _ _ hx).1) hs)
        · obtain ⟨z, hz, h⟩ := Option.bind_eq_some_iff.mp h
          cases h
          exact ord (s_comp g hi (blkOk_by hb) hL' (fun s H C cl fp => trT_ok (key s H C cl fp) (g.blk s H scope (compEnvC scope cl C X.env) fp) (fun _ z => z) 8 ht)
            (fun s H C cl fp => pts_one (key s H C cl fp _ _ hz).2) (fun s H C cl fp => (key s H C cl fp _ _ hx).1) hs)
        · cases h
      · cases h
    · cases h
end
end Ev

set_option Elab.async false
set_option linter.all false
set_option maxRecDepth 100000
set_option maxHeartbeats 4000000
namespace Ev
open PySem PySem.Spec PyProof.Rows L2

/-! ## statements -/
def PostS (S : Sta) (W : WX) (ι : Nat → Addr) (m : Mem) (H : Hp) (D : Ends) (o : OutS) : Prop := match o with
  | .nx ρ' m' => ∀ ι' H' σ', Step S ι m H ι' m' H' → RepS S ι' m'.nx H' ρ' σ' → D.nx σ' H'
  | .brk ρ' m' => ∀ ι' H' σ', Step S ι m H ι' m' H' → RepS S ι' m'.nx H' ρ' σ' → D.bk σ' H'
  | .cnt ρ' m' => ∀ ι' H' σ', Step S ι m H ι' m' H' → RepS S ι' m'.nx H' ρ' σ' → D.ct σ' H'
  | .ret d m' => ∀ ι' H' v, Step S ι m H ι' m' H' → RepV S ι' m'.nx H' d v → D.rt v H'
  | .exc x ρ' m' => ∀ ι' H' σ' cls dd, Step S ι m H ι' m' H' → RepS S ι' m'.nx H' ρ' σ' → RepX S ι' m'.nx H' x cls dd → W cls dd σ' H'
  | .bad => False
def evS (S : Sta) (W : WX) (f : Rho → Mem → OutS) : TS := fun D σ H => ∃ ι ρ m, RepS S ι m.nx H ρ σ ∧ RepM S ι H m ∧ PostS S W ι m H D (f ρ m)
section
variable {S : Sta} {G : Glo} {Fs : Fns} {n : Nat} {X : Cx} {W : WX} {pos : Pos} {stm : Stmt} {sts : List Stmt}
theorem psI {t t' : TS} (h : PS X stm t) (k : ∀ D σ H, t' D σ H → t D σ H) : PS X stm t' := ⟨fun pins s σ H D I w => h.run pins s σ H D I (k D σ H w)⟩
theorem pssI {t t' : TS} (h : PSs X sts t) (k : ∀ D σ H, t' D σ H → t D σ H) : PSs X sts t' := ⟨fun pins s σ H D I w => h.run pins s σ H D I (k D σ H w)⟩
section
variable {ι ι1 : Nat → Addr} {m m1 : Mem} {H H1 : Hp} {ρ : Rho} {σ : L2.St} {D : Ends} {o : OutS}
theorem PostS.step (T : Step S ι m H ι1 m1 H1) (p : PostS S W ι m H D o) : PostS S W ι1 m1 H1 D o := by
  cases o with
  | nx ρ' m' => exact fun ι' H' σ' z => p ι' H' σ' (T.trans z)
  | brk ρ' m' => exact fun ι' H' σ' z => p ι' H' σ' (T.trans z)
  | cnt ρ' m' => exact fun ι' H' σ' z => p ι' H' σ' (T.trans z)
  | ret d m' => exact fun ι' H' σ' z => p ι' H' σ' (T.trans z)
  | exc x ρ' m' => exact fun ι' H' σ' cls dd z => p ι' H' σ' cls dd (T.trans z)
  | bad => exact p
theorem PostS.st {α : Type} {a : Out α} {f : α → Mem → OutS} (rs : RepS S ι m.nx H ρ σ) (M : RepM S ι H m) (p : PostS S W ι m H D (a.st ρ f)) :
    PostG S ι m H (fun c d H' => W c d σ H') a fun x ι1 m1 H1 => RepM S ι1 H1 m1 ∧ Step S ι m H ι1 m1 H1 ∧ RepS S ι1 m1.nx H1 ρ σ ∧ PostS S W ι1 m1 H1 D (f x m1) := by
  cases a with
  | ok x m' => exact fun ι' H' z => ⟨z.mem, z, z.repS M rs, PostS.step z p⟩
  | exc x m' => exact fun ι' H' cls dd z r => p ι' H' σ cls dd z (z.repS M rs) r
  | bad => exact p
theorem PostS.here (rs : RepS S ι m.nx H ρ σ) (M : RepM S ι H m) (p : PostS S W ι m H D (.nx ρ m)) : D.nx σ H := p ι H σ (Step.refl M) rs
/-- a value, then the rest -/
theorem st_then {f : Rho → MV Ev.D} {g : Ev.D → Mem → OutS} {R : VK} (rs : RepS S ι m.nx H ρ σ) (M : RepM S ι H m) (p : PostS S W ι m H D ((f ρ m).st ρ g))
    (k : ∀ d v ι1 m1 H1, RepS S ι1 m1.nx H1 ρ σ → RepM S ι1 H1 m1 → Step S ι m H ι1 m1 H1 → RepV S ι1 m1.nx H1 d v → PostS S W ι1 m1 H1 D (g d m1) → R v H1) : evE S W f σ H R :=
  ⟨ι, ρ, m, rs, M, (p.st rs M).imp fun d ι1 m1 H1 _ ⟨M1, T1, rs1, q⟩ v rv => k d v ι1 m1 H1 rs1 M1 T1 rv q⟩
end
def seqS (f g : Rho → Mem → OutS) : Rho → Mem → OutS := fun ρ m => match f ρ m with
  | .nx ρ' m' => g ρ' (tdS m.nx ρ' m')
  | o => o
theorem q_nil : PSs X [] (evS S W fun ρ m => .nx ρ m) := pssI pss_nil fun D σ H ⟨ι, ρ, m, rs, M, p⟩ => p.here rs M
theorem q_cons {f g : Rho → Mem → OutS} (h1 : PS X stm (evS S W f)) (h2 : PSs X sts (evS S W g)) : PSs X (stm :: sts) (evS S W (seqS f g)) :=
  pssI (pss_cons h1 h2) fun D σ H ⟨ι, ρ, m, rs, M, p⟩ => ⟨ι, ρ, m, rs, M, by
    unfold seqS at p
    cases e : f ρ m with
    | nx ρ' m' => rw [e] at p; exact fun ι' H' σ' z r => ⟨ι', ρ', _, r.tidyS, (z.tidyS ρ').mem, PostS.step (z.tidyS ρ') p⟩
    | brk ρ' m' => rw [e] at p; exact p
    | cnt ρ' m' => rw [e] at p; exact p
    | ret d m' => rw [e] at p; exact p
    | exc x ρ' m' => rw [e] at p; exact p
    | bad => rw [e] at p; exact p⟩
def asgS (fe : Rho → MV D) (ft : D → Rho → MV Rho) : Rho → Mem → OutS := fun ρ m => (fe ρ m).st ρ fun d m1 => (noX (ft d ρ m1)).st ρ fun ρ' m' => .nx ρ' m'
theorem asg_go {fe : Rho → MV D} {ft : D → Rho → MV Rho} {L : List Nat} {D : Ends} {σ : L2.St} {H : Hp} (w : evS S W (asgS fe ft) D σ H) : tAsg (evE S W fe) (evG S L ft) D σ H := by
  obtain ⟨ι, ρ, m, rs, M, p⟩ := w
  refine st_then rs M p fun d v ι1 m1 H1 rs1 M1 T1 rv q => ⟨ι1, ρ, m1, d, rs1, M1, rv, ?_⟩
  refine (noX_any (q.st rs1 M1)).imp fun ρ' ι2 m2 H2 _ ⟨M2, T2, rs2, q2⟩ σ' r o => q2.here r M2
theorem q_asg {e tg : Expr} {fe : Rho → MV D} {ft : D → Rho → MV Rho} {L : List Nat} (he : PE X e (evE S W fe)) (hg : PG X tg (evG S L ft)) (hs : swapsWithSole [tg] e pos.line X.env = pure false) (hw : swappedStores [tg] e X.env = pure none) (hp : plainX tg = true) : PS X (.Assign [tg] e pos) (evS S W (asgS fe ft)) :=
  psI (ps_asg he hg hs hw (by rw [asg1 hp] <;> rfl)) fun D σ H w => asg_go w
theorem q_set {i : Nat} {x : Str} {e : Expr} {px : Pos} {fe : Rho → MV D} (g : GC S G Fs n X W) (hi : X.N[i]? = some x) (hx : Loc X.env.scope x) (hf : X.fn x = true ∨ X.env.scope.names.lookup x = some .local) (he : PE X e (evE S W fe)) (hs : swapsWith e (some (.Name x px)) pos.line X.env = pure false) : PS X (.Assign [.Name x px] e pos) (evS S W (asgS fe (tnmM i))) :=
  psI (ps_set g.nd hi hx he hs hf) fun D σ H ⟨ι, ρ, m, rs, M, p⟩ => st_then rs M p fun d v ι1 m1 H1 rs1 M1 T1 rv q => (q.st rs1 M1) ι1 H1 (Step.refl M1) |>.2.2.2 ι1 H1 _ (Step.refl M1) (rs1.set rv i)
theorem q_par {i j : Nat} {x y : Str} {a b : Expr} {px py pt : Pos} {kt k2 pt2} {fa : Rho → MV D} (g : GC S G Fs n X W) (hi : X.N[i]? = some x) (hj : X.N[j]? = some y) (hij : i ≠ j)
    (hx : X.env.scope.names.lookup x = some .local) (hy : X.env.scope.names.lookup y = some .local) (ha : PA X [a, b] (evA S W fa)) (hl : TupLen fa 2)
    (hw : swappedStores [.Tuple [.Name x px, .Name y py] kt pt] (.Tuple [a, b] k2 pt2) X.env = pure (some [x, y])) :
    PS X (.Assign [.Tuple [.Name x px, .Name y py] kt pt] (.Tuple [a, b] k2 pt2) pos) (evS S W fun ρ m => (fa ρ m).st ρ fun d m1 => (match d with | .tup [x, y] => .nx ((ρ.set i (some x)).set j (some y)) m1 | _ => .bad)) := by
  refine psI (ps_par g.calm g.nd hi hj hij hx hy ha hw) fun D σ H ⟨ι, ρ, m, rs, M, p⟩ => ⟨ι, ρ, m, rs, M, ?_⟩
  have p := p.st rs M
  cases e : fa ρ m with
  | ok d m' =>
    rw [e] at p
    obtain ⟨ds, rfl, hk⟩ := hl _ _ _ _ e
    match ds, hk with
    | [d1, d2], _ =>
      refine fun ι1 H1 T => ⟨_, rfl, fun vs r => ?_⟩
      obtain ⟨M1, T1, rs1, q⟩ := p ι1 H1 T
      cases r with
      | cons r1 r =>
        cases r with
        | cons r2 r =>
          cases r
          exact ⟨_, _, rfl, q ι1 H1 _ (Step.refl M1) ((rs1.set r1 i).set r2 j)⟩
  | exc x m' => rw [e] at p; exact p
  | bad => rw [e] at p; exact p
theorem q_par3 {i j l : Nat} {x y z : Str} {a b c : Expr} {px py pz pt : Pos} {kt k2 pt2} {fa : Rho → MV D} (g : GC S G Fs n X W) (hi : X.N[i]? = some x) (hj : X.N[j]? = some y) (hl : X.N[l]? = some z) (hij : i ≠ j) (hil : i ≠ l) (hjl : j ≠ l)
    (hx : X.env.scope.names.lookup x = some .local) (hy : X.env.scope.names.lookup y = some .local) (hz : X.env.scope.names.lookup z = some .local) (ha : PA X [a, b, c] (evA S W fa)) (hle : TupLen fa 3)
    (hw : swappedStores [.Tuple [.Name x px, .Name y py, .Name z pz] kt pt] (.Tuple [a, b, c] k2 pt2) X.env = pure (some [x, y, z])) :
    PS X (.Assign [.Tuple [.Name x px, .Name y py, .Name z pz] kt pt] (.Tuple [a, b, c] k2 pt2) pos) (evS S W fun ρ m => (fa ρ m).st ρ fun d m1 => (match d with | .tup [x, y, z] => .nx (((ρ.set i (some x)).set j (some y)).set l (some z)) m1 | _ => .bad)) := by
  refine psI (ps_par3 g.calm g.nd hi hj hl hij hil hjl hx hy hz ha hw) fun D σ H ⟨ι, ρ, m, rs, M, p⟩ => ⟨ι, ρ, m, rs, M, ?_⟩
  have p := p.st rs M
  cases e : fa ρ m with
  | ok d m' =>
    rw [e] at p
    obtain ⟨ds, rfl, hk⟩ := hle _ _ _ _ e
    match ds, hk with
    | [d1, d2, d3], _ =>
      refine fun ι1 H1 T => ⟨_, rfl, fun vs r => ?_⟩
      obtain ⟨M1, T1, rs1, q⟩ := p ι1 H1 T
      cases r with
      | cons r1 r =>
        cases r with
        | cons r2 r =>
          cases r with
          | cons r3 r =>
            cases r
            exact ⟨_, _, _, rfl, q ι1 H1 _ (Step.refl M1) (((rs1.set r1 i).set r2 j).set r3 l)⟩
  | exc x m' => rw [e] at p; exact p
  | bad => rw [e] at p; exact p
theorem ipo (op : BOp) (ho : op ≠ .pow) : PIp X op.py fun x y H Q => ∃ i j k, x = .int i ∧ y = .int j ∧ binI op i j = some k ∧ Q (.int k) H := by
  rintro pins s σ H x y v u Q I rx ry ⟨i, j, k, rfl, rfl, e, q⟩
  obtain ⟨t, rfl⟩ := rx
  obtain ⟨t', rfl⟩ := ry
  have fin : ∀ z, z = k → EP X pins σ Q (.int z s.toks) { s with toks := s.toks + 1 } := fun z hz => ⟨.int k, H, I.tok _, ⟨s.toks, hz ▸ rfl⟩, q⟩
  cases op with
  | add => exact iadd_int (fin _ (Option.some.inj e))
  | sub => exact isub_int (fin _ (Option.some.inj e))
  | mul => obtain ⟨h, e⟩ := guardO_some e; exact imul_int (fin _ e) (mul_ok h)
  | fdiv =>
    obtain ⟨h, e⟩ := guardO_some e
    simp only [Bool.and_eq_true, Bool.not_eq_true', decide_eq_false_iff_not] at h
    exact PySem.AutoIntOps.ifloordiv_1 (by simpa using h.1) (by rw [PyProof.noPylong_of_log2 (Nat.le_of_ble_eq_true h.2)]; decide) (fin _ e)
  | mod =>
    obtain ⟨h, e⟩ := guardO_some e
    simp only [Bool.not_eq_true', decide_eq_false_iff_not] at h
    exact PySem.AutoIntOps.imod_1 (by simpa using h) (fin _ e)
  | pow => exact absurd rfl ho
theorem q_aug {i : Nat} {x : Str} {e : Expr} {px : Pos} {fe : Rho → MV D} {op : BOp} (g : GC S G Fs n X W) (hi : X.N[i]? = some x) (hx : Loc X.env.scope x) (hf : X.fn x = true ∨ X.env.scope.names.lookup x = some .local) (he : PE X e (evE S W fe)) (ho : op ≠ .pow) : PS X (.AugAssign (.Name x px) op.py e pos) (evS S W fun ρ m => (match getR ρ i with
    | some x => (fe ρ m).st ρ fun y m1 => (match x, y with | .int a, .int b => (opt (binI op a b) m1).st ρ fun r m2 => .nx (ρ.set i (some (.int r))) m2 | _, _ => .bad)
    | none => .bad)) := by
  refine psI (ps_aug g.nd hi hx he (ipo op ho) hf) fun D σ H ⟨ι, ρ, m, rs, M, p⟩ => ?_
  dsimp only at p
  cases e1 : getR ρ i with
  | none => rw [e1] at p; exact False.elim p
  | some d =>
    rw [e1] at p
    obtain ⟨v, hv, rv⟩ := rs.at_ i d e1
    refine ⟨v, hv, st_then rs M p fun d2 v2 ι1 m1 H1 rs1 M1 T1 r2 q => ?_⟩
    have rv := T1.repV M rv
    cases rv with
    | int a => cases r2 with
      | int b =>
        have q : PostS S W ι1 m1 H1 D ((opt (binI op a b) m1).st ρ fun r m2 => .nx (ρ.set i (some (.int r))) m2) := q
        cases e2 : binI op a b with
        | none => rw [e2] at q; exact False.elim q
        | some k =>
          rw [e2] at q
          exact ⟨a, b, k, rfl, rfl, e2, q ι1 H1 _ (Step.refl M1) (rs1.set (.int k) i)⟩
      | _ => exact False.elim q
    | _ => cases r2 <;> exact False.elim q
/-- o[i] op= e, of a list -/
theorem pget_l : PGet X (rIxL X.K) := by
  rintro pins s σ H o i ov iv Q I ro ri ⟨ad, vs, n0, y, rfl, rfl, hsq, hat, q0⟩
  obtain ⟨t, rfl⟩ := ri
  obtain rfl : ov = Value.ref ad := ro
  obtain ⟨us, rr, hpl, hus⟩ := I.list hsq
  obtain ⟨j, g1, g2, g3, g4, g5⟩ := atI_get hat
  obtain ⟨wv, ewv, rwv⟩ := rr.get g2
  have hlen := rr.length
  have h63 := line63
  have fin : EP X pins σ Q wv s := ⟨y, H, I, rwv, q0⟩
  by_cases hz : 0 ≤ n0
  · have hj : n0.toNat = j := Option.some.inj ((seqIndex_of hz g5).symm.trans g1)
    exact wpAny_getItem_list hpl.isList hz (by omega) (by rw [hj]; simpa using ewv) fin
  · have hj : (n0 + (us.toArray.size : Int)).toNat = j := by
      rw [List.size_toArray, ← hlen]
      exact Option.some.inj ((seqIndex_neg (by omega) g4).symm.trans g1)
    exact wpAny_getItem_list_neg hpl.isList (by omega) (by rw [List.size_toArray]; omega) (by omega) (by rw [hj]; simpa using ewv) fin
theorem onLst_bad {α : Type} {m : Mem} (x : Ev.D) : onLst m x (fun _ => (Out.bad : Out α)) = .bad := by
  unfold onLst
  split
  · split <;> rfl
  · rfl
theorem stBad {α : Type} {ι : Nat → Addr} {m : Mem} {H : Hp} {D : Ends} {ρ : Rho} {o : Out α} {f : α → Mem → OutS} (p : PostS S W ι m H D (o.st ρ f)) (h : o = .bad) : False := by
  rw [h] at p
  exact p
theorem q_augs {o i e : Expr} {tpos : Pos} {fo fi fe : Rho → MV D} {op : BOp} (g : GC S G Fs n X W) (ho : PE X o (evE S W fo)) (hi : PE X i (evE S W fi)) (he : PE X e (evE S W fe)) (hop : op ≠ .pow) (hm : ∀ a b c p, i ≠ .Slice a b c p) :
    PS X (.AugAssign (.Subscript o i tpos) op.py e pos) (evS S W fun ρ m => (fo ρ m).st ρ fun x m1 => (fi ρ m1).st ρ fun y m2 => (onLst m2 x fun _ => ixF x y m2).st ρ fun v m3 => (fe ρ m3).st ρ fun w m4 => (match v, w with
    | .int a, .int b => (opt (binI op a b) m4).st ρ fun r m5 => (setItemF x y (.int r) m5).st ρ fun _ m6 => .nx ρ m6
    | _, _ => .bad)) := by
  refine psI (ps_augS ho hi pget_l he (ipo op hop) set_list fun _ _ _ => by cases i <;> first | rfl | exact absurd rfl (hm _ _ _ _)) fun D σ H ⟨ι, ρ, m, rs, M, p⟩ => ?_
  refine st_then rs M p fun x xv ι1 m1 H1 rs1 M1 T1 rx p1 => st_then rs1 M1 p1 fun y yv ι2 m2 H2 rs2 M2 T2 ry p2 => ?_
  have rx2 := T2.repV M1 rx
  cases ry with
  | int k =>
    cases rx2 with
    | @ref j hj =>
      have p2 : PostS S W ι2 m2 H2 D ((match m2.lst j with | some _ => (match m2.lst j with | some ds => opt (L2.atI ds k) m2 | none => .bad) | none => .bad).st ρ fun v m3 => (fe ρ m3).st ρ fun w m4 => (match v, w with
        | .int a, .int b => (opt (binI op a b) m4).st ρ fun r m5 => (setItemF (.ref j) (.int k) (.int r) m5).st ρ fun _ m6 => .nx ρ m6
        | _, _ => .bad)) := p2
      cases e1 : m2.lst j with
      | none => rw [e1] at p2; exact False.elim p2
      | some ds =>
        rw [e1] at p2
        dsimp only at p2
        obtain ⟨vs, h, r⟩ := M2.lstL e1
        cases e2 : L2.atI ds k with
        | none => rw [e2] at p2; exact False.elim p2
        | some c =>
          rw [e2] at p2
          obtain ⟨z, hz, rz⟩ := r.atI e2
          refine ⟨_, vs, k, z, rfl, rfl, by rw [g.hK]; exact h, hz, ?_⟩
          refine st_then rs2 M2 p2 fun d v ι3 m3 H3 rs3 M3 T3 rv p3 => ?_
          have rz3 := T3.repV M2 rz
          cases rz3 with
          | int a =>
            cases rv with
            | int b =>
              have p3 : PostS S W ι3 m3 H3 D ((opt (binI op a b) m3).st ρ fun r m5 => (setItemF (.ref j) (.int k) (.int r) m5).st ρ fun _ m6 => .nx ρ m6) := p3
              cases e3 : binI op a b with
              | none => rw [e3] at p3; exact False.elim p3
              | some w =>
                rw [e3] at p3
                refine ⟨a, b, w, rfl, rfl, e3, ?_⟩
                have p4 := PostS.st rs3 M3 (f := fun _ m6 => .nx ρ m6) p3
                exact set_ok M3 (T3.repV M2 (.ref hj)) (.int k) (.int w) p4 fun m5 H5 T5 ⟨M5, _, rs5, q⟩ => q.here rs5 M5
            | _ => exact False.elim p3
          | _ => cases rv <;> exact False.elim p3
    | _ => exact False.elim p2
  | _ =>
    exact (stBad p2 (onLst_bad x)).elim
theorem q_expr {e : Expr} {fe : Rho → MV D} (he : PE X e (evE S W fe)) (hs : swapsWith e none pos.line X.env = pure false) : PS X (.Expr e pos) (evS S W fun ρ m => (fe ρ m).st ρ fun _ m1 => .nx ρ m1) :=
  psI (ps_expr he hs) fun D σ H ⟨ι, ρ, m, rs, M, p⟩ => st_then rs M p fun d v ι1 m1 H1 rs1 M1 T1 rv q => q.here rs1 M1
theorem q_ret {e : Expr} {fe : Rho → MV D} (he : PE X e (evE S W fe)) : PS X (.Return (some e) pos) (evS S W fun ρ m => (fe ρ m).st ρ fun d m1 => .ret d m1) :=
  psI (ps_ret he) fun D σ H ⟨ι, ρ, m, rs, M, p⟩ => st_then rs M p fun d v ι1 m1 H1 rs1 M1 T1 rv q => q ι1 H1 v (Step.refl M1) rv
/-- raise C(e) -/
theorem q_raise1 {x : Str} {k : Nat} {e : Expr} {fe : Rho → MV D} {p cp : Pos} (g : GC S G Fs n X W) (hx : G.x x = some (k, true)) (hg : Gl X x) (hd : (x == ("__debug__" : Str)) = false) (he : PE X e (evE S W fe)) (hp : plainX e = true) :
    PS X (.Raise (some (.Call (.Name x p) [e] [] cp)) none pos) (evS S W fun ρ m => ((consM fe fun _ => okk (.tup [])) ρ m).st ρ fun d m1 => (match d with | .tup ds => .exc ⟨k, ds⟩ ρ m1 | _ => .bad)) := by
  obtain ⟨_, xo⟩ := g.xk x k true hx
  obtain ⟨⟨B, newId, initId, bmB, fI, O⟩, XF⟩ := xo.own rfl
  refine psI (ps_raise g.calm g.tk (ExM.pmk_init O (g.room.mono (by have := g.n8; omega)) g.sup hg xo.mg he hd (star1 hp [] X.env))) fun D σ H ⟨ι, ρ, m, rs, M, q⟩ => ?_
  have q : PostS S W ι m H D ((fe ρ m).st ρ fun d m1 => .exc ⟨k, [d]⟩ ρ m1) := by
    unfold consM at q
    dsimp only at q
    cases e1 : fe ρ m with
    | ok d m1 => rw [e1] at q; exact q
    | exc y m1 => rw [e1] at q; exact q
    | bad => rw [e1] at q; exact q
  refine st_then rs M q fun d v ι1 m1 H1 rs1 M1 T1 rv q1 dx hdx => ?_
  have T2 := Step.laid M1 hdx (u := .xd [(S.cf k, v)])
  exact q1 ι1 _ σ _ _ T2 (T2.repS M1 rs1) ⟨rfl, dx, _, v, rfl, upd_same, List.lookup_cons_self, T2.repV M1 rv⟩
/-- raise C('text') -/
theorem q_raise0 {x z : Str} {k j : Nat} {p p2 cp : Pos} (g : GC S G Fs n X W) (hx : G.x x = some (k, false)) (hg : Gl X x) (hd : (x == ("__debug__" : Str)) = false) :
    PS X (.Raise (some (.Call (.Name x p) [.Constant (.str z) j p2] [] cp)) none pos) (evS S W fun ρ m => (okk (D.tup []) m).st ρ fun d m1 => (match d with | .tup ds => .exc ⟨k, ds⟩ ρ m1 | _ => .bad)) := by
  obtain ⟨_, xo⟩ := g.xk x k false hx
  obtain ⟨B, newId, initId, bmB, FB, hE, hk, hs, ht⟩ := xo.txt rfl
  refine psI (ps_raise g.calm g.tk (pmk_own FB hE xo.mg hk (raises_own hs ht) hg hd)) fun D σ H ⟨ι, ρ, m, rs, M, q⟩ => ?_
  have q : PostS S W ι m H D (.exc ⟨k, []⟩ ρ m) := q
  exact q ι H σ _ _ (Step.refl M) rs ⟨rfl, trivial⟩
theorem q_ret0 : PS X (.Return none pos) (evS S W fun ρ m => (okk D.non m).st ρ fun d m1 => .ret d m1) :=
  psI ps_retN fun D σ H ⟨ι, ρ, m, rs, M, p⟩ => p ι H _ (Step.refl M) .non
theorem q_if {c : Expr} {a b : List Stmt} {fc : Rho → MV Bool} {f g : Rho → Mem → OutS} (hc : PT X c (evB S W fc)) (ha : PSs X a (evS S W f)) (hb : PSs X b (evS S W g)) : PS X (.If c a b pos) (evS S W fun ρ m => (fc ρ m).st ρ fun t m1 => (match t with | true => f ρ m1 | false => g ρ m1)) :=
  psI (ps_if hc ha hb) fun D σ H ⟨ι, ρ, m, rs, M, p⟩ => ⟨ι, ρ, m, rs, M, (p.st rs M).imp fun t ι1 m1 H1 _ ⟨M1, T1, rs1, q⟩ => by
    cases t with
    | true => exact ⟨ι1, ρ, m1, rs1, M1, q⟩
    | false => exact ⟨ι1, ρ, m1, rs1, M1, q⟩⟩
theorem Step.tidyL {ι' : Nat → Addr} {m m' : Mem} {ι : Nat → Addr} {H H' : Hp} (T : Step S ι m H ι' m' H') (vs : List Nat) (ρ : Rho) : Step S ι m H ι' (tdL m.nx vs ρ m').2 H' := by
  unfold tdL
  cases h : canCut m.nx m' with
  | false => exact T
  | true =>
    dsimp only
    cases lowAll m.nx ρ with
    | true => exact T.cut h
    | false =>
      dsimp only
      cases lowAll m.nx (wipeR ρ vs) with
      | true => exact T.cut h
      | false => exact T
theorem RepS.tidyL {ι' : Nat → Addr} {m' : Mem} {H' : Hp} {n : Nat} {vs : List Nat} {ρ : Rho} {σ : L2.St} (r : RepS S ι' m'.nx H' ρ σ) : RepS S ι' (tdL n vs ρ m').2.nx H' (tdL n vs ρ m').1 σ := by
  unfold tdL
  cases h : canCut n m' with
  | false => exact r
  | true =>
    dsimp only
    cases h2 : lowAll n ρ with
    | true => exact ⟨r.len, fun i d e => let ⟨v, a, b⟩ := r.at_ i d e; ⟨v, a, b.low (lowAll_at h2 e)⟩⟩
    | false =>
      dsimp only
      cases h3 : lowAll n (wipeR ρ vs) with
      | true => exact ⟨by rw [wipeR_len]; exact r.len, fun i d e => let ⟨v, a, b⟩ := r.at_ i d (getR_wipe e).1; ⟨v, a, b.low (lowAll_at h3 e)⟩⟩
      | false => exact r
theorem q_while {vs : List Nat} {c : Expr} {body : List Stmt} {fc : Rho → MV Bool} {f : Rho → Mem → OutS} (hp : PassesOwn (model X.prog X.w) X.A X.env X.xe) (hc : PT X c (evB S W fc)) (hb : PSs X body (evS S W f)) : PS X (.While c body [] pos) (evS S W fun ρ m => whileL vs fc f wMost ρ m) := by
  refine psI (ps_while hp hc hb) fun D σ H w => ⟨fun k => evS S W (fun ρ m => whileL vs fc f k ρ m) D, ⟨wMost, w⟩, fun k σ1 H1 ⟨ι, ρ, m, rs, M, p⟩ => ?_⟩
  cases k with
  | zero => exact False.elim p
  | succ k =>
    refine ⟨ι, ρ, m, rs, M, ?_⟩
    have p : PostS S W ι m H1 D ((fc ρ m).st ρ fun t m1 => match t with
      | false => .nx ρ m1
      | true => (match f ρ m1 with
        | .nx ρ' m' => whileL vs fc f k (tdL m.nx vs ρ' m').1 (tdL m.nx vs ρ' m').2
        | .cnt ρ' m' => whileL vs fc f k (tdL m.nx vs ρ' m').1 (tdL m.nx vs ρ' m').2
        | .brk ρ' m' => .nx ρ' m'
        | .ret d m' => .ret d m'
        | .exc x ρ' m' => .exc x ρ' m'
        | .bad => .bad)) := p
    cases e : fc ρ m with
    | bad => rw [e] at p; exact False.elim p
    | exc x m1 => rw [e] at p; exact fun ι1 H2 cls dd T r => p ι1 H2 σ1 cls dd T (T.repS M rs) r
    | ok t m1 =>
      rw [e] at p
      cases t with
      | false => exact fun ι1 H2 T => p ι1 H2 σ1 T (T.repS M rs)
      | true =>
        refine fun ι1 H2 T => ⟨fun σ' H' => evS S W (fun ρ m => whileL vs fc f k ρ m) D σ' H', fun σ' H' z => ⟨k, Nat.lt_succ_self k, z⟩, ι1, ρ, m1, T.repS M rs, T.mem, ?_⟩
        have p : PostS S W ι m H1 D (match f ρ m1 with
          | .nx ρ' m' => whileL vs fc f k (tdL m.nx vs ρ' m').1 (tdL m.nx vs ρ' m').2
          | .cnt ρ' m' => whileL vs fc f k (tdL m.nx vs ρ' m').1 (tdL m.nx vs ρ' m').2
          | .brk ρ' m' => .nx ρ' m'
          | .ret d m' => .ret d m'
          | .exc x ρ' m' => .exc x ρ' m'
          | .bad => .bad) := p
        have again : ∀ {ρ' : Rho} {m' : Mem}, PostS S W ι m H1 D (whileL vs fc f k (tdL m.nx vs ρ' m').1 (tdL m.nx vs ρ' m').2) → ∀ ι' H' σ', Step S ι1 m1 H2 ι' m' H' → RepS S ι' m'.nx H' ρ' σ' → evS S W (fun ρ m => whileL vs fc f k ρ m) D σ' H' :=
          fun q ι' H' σ' T2 r => ⟨ι', _, _, r.tidyL, ((T.trans T2).tidyL _ _).mem, PostS.step ((T.trans T2).tidyL _ _) q⟩
        cases e2 : f ρ m1 with
        | nx ρ' m' => rw [e2] at p; exact again p
        | cnt ρ' m' => rw [e2] at p; exact again p
        | brk ρ' m' => rw [e2] at p; exact fun ι' H' σ' T2 r => p ι' H' σ' (T.trans T2) r
        | ret d m' => rw [e2] at p; exact fun ι' H' v T2 r => p ι' H' v (T.trans T2) r
        | exc x ρ' m' => rw [e2] at p; exact fun ι' H' σ' cls dd T2 r rx => p ι' H' σ' cls dd (T.trans T2) r rx
        | bad => rw [e2] at p; exact p
def OutS.onMem (f : Mem → Mem) : OutS → OutS
  | .nx ρ m => .nx ρ (f m)
  | .brk ρ m => .brk ρ (f m)
  | .cnt ρ m => .cnt ρ (f m)
  | .ret d m => .ret d (f m)
  | .exc x ρ m => .exc x ρ (f m)
  | .bad => .bad
theorem onMemS_id (o : OutS) : o.onMem (fun m => m) = o := by cases o <;> rfl
theorem onMemS_onMem (f g : Mem → Mem) (o : OutS) : (o.onMem f).onMem g = o.onMem fun m => g (f m) := by cases o <;> rfl
theorem holdS_eq {n : Nat} {m : Mem} {f : Mem → OutS} {ds : List D} (h : m.lst n = some ds) : holdS n f m = (f (hold1 n m)).onMem (back1 n m) := by
  unfold Mem.lst at h
  unfold holdS hold1 back1
  cases e : m.get n with
  | none => rw [e] at h; cases h
  | some o =>
    cases o with
    | lst es =>
      dsimp only
      cases f (m.put n (.rol es)) <;> rfl
    | rol es => exact (onMemS_id _).symm
    | kol es => exact (onMemS_id _).symm
    | scr es => exact (onMemS_id _).symm
    | ins k fs => rw [e] at h; cases h
theorem onSrcS_eq {ι : Nat → Addr} {m : Mem} {H : Hp} {s : Src} {J : It} {f : List D → Mem → OutS} (h : SrcOk S ι m H s J) : onSrcS s f m = (f s.ds (s.mem m)).onMem (s.back m) := by
  have h := h.good
  cases s with
  | items ds => exact (onMemS_id _).symm
  | held n ds =>
    obtain ⟨xs, e⟩ := h
    exact holdS_eq e
  | held2 n k ds =>
    obtain ⟨⟨xs, e⟩, ys, e2⟩ := h
    show holdS n (holdS k (f ds)) m = _
    rw [holdS_eq e, holdS_eq (hold_lst.trans e2), onMemS_onMem]
    rfl
/-- what is wanted behind a walk, said of its inner store -/
def PostB (S : Sta) (W : WX) (ι0 : Nat → Addr) (m0 : Mem) (H0 : Hp) (s : Src) (ι : Nat → Addr) (m : Mem) (H : Hp) (D : Ends) (o : OutS) : Prop :=
  PostS S W ι m H { nx := fun σ' H' => ∀ ι' m', Step S ι0 m0 H0 ι' (s.back m0 m') H' → D.nx σ' H', rt := D.rt, bk := D.bk, ct := D.ct } o
theorem q_for {vs : List Nat} {tg iter : Expr} {body : List Stmt} {fs : Rho → MV Src} {ft : D → Rho → MV Rho} {f : Rho → Mem → OutS} {L : List Nat} (g : GC S G Fs n X W) (hp : PassesOwn (model X.prog X.w) X.A X.env X.xe) (hi : PI X tg iter (evI S W fs)) (hg : PG X tg (evG S L ft)) (hb : PSs X body (evS S W f))
    (hs : ∀ x, foldedSetIterable iter X.env x = pure x) : PS X (.For tg iter body [] pos) (evS S W fun ρ m => (fs ρ m).st ρ fun s m1 => onSrcS s (fun ds => forL vs (fun d ρ m => noX (ft d ρ m)) f ds ρ) m1) := by
  refine psI (ps_for hp g.calm hi hg hb hs) fun D σ H ⟨ι, ρ, m, rs, M, p⟩ => ⟨ι, ρ, m, rs, M, (p.st rs M).imp fun src ι1 m1 H1 _ ⟨M1, T1, rs1, q⟩ J hJ => ?_⟩
  rw [onSrcS_eq hJ] at q
  have Tm := step_mem (s := src) M1
  -- what is left to do from a state within the loop
  let P : Nat → L2.St → Hp → Prop := fun i σ' Hc => i ≤ src.ds.length ∧ ∃ ι' ρ' m', Step S ι1 (src.mem m1) H1 ι' m' Hc ∧ RepS S ι' m'.nx Hc ρ' σ' ∧
    PostS S W ι1 m1 H1 D ((forL vs (fun d ρ m => noX (ft d ρ m)) f (src.ds.drop i) ρ' m').onMem (src.back m1))
  refine ⟨fun i k σ' Hc => k = src.ds.length - i ∧ P i σ' Hc, ⟨src.ds.length, by simp, Nat.zero_le _, ι1, ρ, src.mem m1, Step.refl Tm.mem, Tm.repS M1 rs1, q⟩, ?_⟩
  rintro i k σ2 H2 ⟨rfl, hi, ι2, ρ2, m2, T, rs2, q2⟩
  have wk := hJ.walk _ _ _ T i
  by_cases hlt : i < src.ds.length
  · refine .inr ⟨(wk.1 hlt).1, P (i + 1), fun σ' H' p' => ⟨src.ds.length - (i + 1), by omega, rfl, p'⟩, fun x Hx y => ?_⟩
    obtain ⟨Tx, d, hd, rd⟩ := (wk.1 hlt).2 x Hx y
    have rs2 := Tx.repS T.mem rs2
    have T := T.trans Tx
    have hdrop : src.ds.drop i = d :: src.ds.drop (i + 1) := by
      rw [List.drop_eq_getElem_cons hlt]
      have : src.ds[i] = d := by
        have h2 := List.getElem?_eq_getElem hlt
        rw [h2] at hd
        exact Option.some.inj hd
      rw [this]
    rw [hdrop] at q2
    refine ⟨ι2, ρ2, m2, d, rs2, T.mem, rd, ?_⟩
    unfold forL at q2
    cases e : ft d ρ2 m2 with
    | bad => rw [e] at q2; exact False.elim q2
    | exc x m' => rw [e] at q2; exact False.elim q2
    | ok ρ3 m3 =>
      rw [e] at q2
      refine fun ι3 H3 T3 σ3 rs3 o3 => ⟨ι3, ρ3, m3, rs3, T3.mem, ?_⟩
      have q2 : PostS S W ι1 m1 H1 D (OutS.onMem (src.back m1) (match f ρ3 m3 with
        | .nx ρ' m' => forL vs (fun d ρ m => noX (ft d ρ m)) f (src.ds.drop (i + 1)) (tdL m2.nx vs ρ' m').1 (tdL m2.nx vs ρ' m').2
        | .cnt ρ' m' => forL vs (fun d ρ m => noX (ft d ρ m)) f (src.ds.drop (i + 1)) (tdL m2.nx vs ρ' m').1 (tdL m2.nx vs ρ' m').2
        | .brk ρ' m' => .nx ρ' m'
        | .ret d m' => .ret d m'
        | .exc x ρ' m' => .exc x ρ' m'
        | .bad => .bad)) := q2
      have TT := T.trans T3
      cases e2 : f ρ3 m3 with
      | bad => rw [e2] at q2; exact False.elim q2
      | nx ρ4 m4 => rw [e2] at q2; exact fun ι4 H4 σ4 T4 rs4 => ⟨by omega, ι4, _, _, T.trans ((T3.trans T4).tidyL _ _), rs4.tidyL, q2⟩
      | cnt ρ4 m4 => rw [e2] at q2; exact fun ι4 H4 σ4 T4 rs4 => ⟨by omega, ι4, _, _, T.trans ((T3.trans T4).tidyL _ _), rs4.tidyL, q2⟩
      | brk ρ4 m4 => rw [e2] at q2; exact fun ι4 H4 σ4 T4 rs4 => q2 ι4 H4 σ4 (step_back (s := src) M1 (TT.trans T4)) (by rw [back_nx]; exact rs4)
      | ret v4 m4 => rw [e2] at q2; exact fun ι4 H4 v T4 rv => q2 ι4 H4 v (step_back (s := src) M1 (TT.trans T4)) (by rw [back_nx]; exact rv)
      | exc x ρ4 m4 => rw [e2] at q2; exact fun ι4 H4 σ4 cls dd T4 rs4 rx => q2 ι4 H4 σ4 cls dd (step_back (s := src) M1 (TT.trans T4)) (by rw [back_nx]; exact rs4) (by rw [back_nx]; exact rx)
  · have e : i = src.ds.length := by omega
    refine .inl ⟨wk.2 (by omega), ?_⟩
    rw [e, List.drop_length] at q2
    exact q2 ι2 H2 σ2 (step_back (s := src) M1 T) (by rw [back_nx]; exact rs2)
theorem q_break : PS X (.Break pos) (evS S W fun ρ m => .brk ρ m) := psI ps_break fun D σ H ⟨ι, ρ, m, rs, M, p⟩ => p ι H σ (Step.refl M) rs
theorem q_cont : PS X (.Continue pos) (evS S W fun ρ m => .cnt ρ m) := psI ps_continue fun D σ H ⟨ι, ρ, m, rs, M, p⟩ => p ι H σ (Step.refl M) rs
theorem q_pass : PS X (.Pass pos) (evS S W fun ρ m => .nx ρ m) := psI ps_pass fun D σ H ⟨ι, ρ, m, rs, M, p⟩ => p.here rs M
theorem q_doc {x j p} : PS X (.Expr (.Constant (.str x) j p) pos) (evS S W fun ρ m => .nx ρ m) := psI ps_doc fun D σ H ⟨ι, ρ, m, rs, M, p⟩ => p.here rs M
theorem q_dead {f : Rho → Mem → OutS} (h : ∀ ρ m, f ρ m = .bad) : PS X stm (evS S W f) := psI ps_never fun D σ H ⟨ι, ρ, m, rs, M, p⟩ => by rw [h] at p; exact p
/-- o.append(e) -/
theorem q_append {o e : Expr} {apos cpos : Pos} {fo fe : Rho → MV D} (g : GC S G Fs n X W) (ho : PE X o (evE S W fo)) (he : PE X e (evE S W fe)) (hp : plainX e = true) (hb : attributeBase o "append" X.env (eval o X.env) = eval o X.env) (hl : (apos.endLine == cpos.line) = true) :
    PS X (.Expr (.Call (.Attribute o "append" apos) [e] [] cpos) pos) (evS S W fun ρ m => (fo ρ m).st ρ fun x m1 => (onLst m1 x fun _ => .ok () m1).st ρ fun _ m1 => (fe ρ m1).st ρ fun d m2 => (appF x d m2).st ρ fun _ m3 => .nx ρ m3) := by
  have h1 := star1 hp [] X.env
  refine psI (ps_expr (pe_bm PySem.F.plainAttrs_list PySem.F.slot_list_append PySem.F.type_list_append mt_append ho (pa_cons he pa_nil h1) hb (by rw [h1] <;> rfl) hl h1) rfl) fun D σ H ⟨ι, ρ, m, rs, M, p⟩ => ?_
  refine st_then rs M p fun d v ι1 m1 H1 rs1 M1 T1 rv q => ?_
  cases rv with
  | @ref k hk =>
    have q : PostS S W ι1 m1 H1 D ((match m1.lst k with | some xs => Out.ok () m1 | none => .bad).st ρ fun _ m1 => (fe ρ m1).st ρ fun d m2 => (appF (.ref k) d m2).st ρ fun _ m3 => .nx ρ m3) := q
    cases e1 : m1.lst k with
    | none => rw [e1] at q; exact False.elim q
    | some xs =>
      rw [e1] at q
      obtain ⟨vs, h, _⟩ := M1.lstL e1
      refine ⟨.inl ⟨rfl, vs, by rw [g.hK]; exact h⟩, ?_⟩
      refine st_then rs1 M1 q fun d2 v2 ι2 m2 H2 rs2 M2 T2 r2 q2 => ?_
      have q2 : PostS S W ι2 m2 H2 D ((match m2.get k with
        | some (.lst ds) => (match sizeB (ds.length + 1) with | true => Out.ok () (m2.put k (.lst (ds ++ [d2]))) | false => .bad)
        | _ => .bad).st ρ fun _ m3 => .nx ρ m3) := q2
      cases e2 : m2.get k with
      | none => rw [e2] at q2; exact False.elim q2
      | some u =>
        rw [e2] at q2
        cases u with
        | lst ds =>
          have q2 : PostS S W ι2 m2 H2 D ((match sizeB (ds.length + 1) with | true => Out.ok () (m2.put k (.lst (ds ++ [d2]))) | false => .bad).st ρ fun _ m3 => .nx ρ m3) := q2
          cases e3 : sizeB (ds.length + 1) with
          | false => rw [e3] at q2; exact False.elim q2
          | true =>
            rw [e3] at q2
            obtain ⟨vs2, h2, r⟩ := M2.ob k _ e2
            have hz := Nat.le_of_ble_eq_true e3
            have T3 := Step.put_lst M2 e2 (r.app (.cons r2 .nil))
            refine ⟨_, vs2, v2, by rw [T2.ext k hk], rfl, h2, ?_, ?_⟩
            · rw [← r.len, sizeLine_eq]; omega
            · exact q2 ι2 _ σ T3 (T3.repS M2 rs2)
        | rol ds => exact False.elim q2
        | kol ds => exact False.elim q2
        | scr ns => exact False.elim q2
        | ins k fs => exact False.elim q2
  | _ => exact False.elim q
end
end Ev

set_option Elab.async false
set_option linter.all false
set_option maxRecDepth 100000
set_option maxHeartbeats 4000000
namespace Ev
open PySem PySem.Spec PyProof.Rows L2

/-! ## the language says what the text does: statements -/
def isComp : Expr → Bool
  | .ListComp .. | .SetComp .. | .DictComp .. => true
  | _ => false
def isNm : Expr → Bool
  | .Name .. => true
  | _ => false
def isTup : Expr → Bool
  | .Tuple .. => true
  | _ => false
def isLi : Expr → Bool
  | .List .. => true
  | _ => false
def isCl : Expr → Bool
  | .Call .. => true
  | _ => false
theorem sw_not {e : Expr} {t : Option Expr} {l : Nat} {env : PySem.Env} (h : isComp e = false) : swapsWith e t l env = pure false := by cases e <;> first | rfl | cases h
theorem sw_tgt {e tg : Expr} {l : Nat} {env : PySem.Env} (h : isNm tg = false) : swapsWith e (some tg) l env = pure false := by
  by_cases hc : isComp e = true
  · cases e <;> first | (cases tg <;> first | rfl | cases h) | cases hc
  · exact sw_not (by simpa using hc)
theorem st_none1 {tg e : Expr} {env : PySem.Env} (h : isTup tg = false) (h2 : isLi tg = false) : swappedStores [tg] e env = pure none := by
  cases tg with
  | Tuple => cases h
  | List => cases h2
  | _ => rfl
theorem st_none2 {ts : List Expr} {a : Nat} {p : Pos} {e : Expr} {env : PySem.Env} (h : isTup e = false) : swappedStores [.Tuple ts a p] e env = pure none := by cases e <;> first | rfl | cases h
theorem filt_lt {β : Type} {f : Expr → Option β} {q : Expr → Bool} (hf : ∀ e, q e = true → f e = none) : ∀ {ts : List Expr}, ts.any q = true → (ts.filterMap f).length < ts.length
  | [], h => by cases h
  | e :: es, h => by
    rw [List.any_cons, Bool.or_eq_true] at h
    rw [List.filterMap_cons]
    by_cases hq : q e = true
    · rw [hf e hq]
      exact Nat.lt_succ_of_le (List.length_filterMap_le _ _)
    · have ih := filt_lt hf (h.resolve_left hq)
      cases f e with
      | none => exact Nat.lt_succ_of_lt ih
      | some b => exact Nat.succ_lt_succ ih
/-- a name of this def's own, in no cell -/
def isOwnX (sc : Scope) : Expr → Bool
  | .Name x _ => locB sc x
  | _ => false
theorem st_none3 {ts vs : List Expr} {a c : Nat} {p q : Pos} {env : PySem.Env} (h : ts.any (fun t => !isOwnX env.scope t) = true) : swappedStores [.Tuple ts a p] (.Tuple vs c q) env = pure none := by
  unfold swappedStores
  dsimp only
  split
  · rfl
  split
  · rfl
  split
  · rfl
  · rename_i h3
    refine absurd ?_ h3
    rw [Bool.or_eq_true]
    left
    have := filt_lt (q := fun t => !isOwnX env.scope t) (f := fun (x : Expr) => match x with
      | .Name id pos => if (env.kindOf id == some .local && pos.line == ((ts.head?.map (·.pos.line)).getD 0)) = true then some id else none
      | _ => none) (fun e he => by
        cases e with
        | Name id ps =>
          have he : (!locB env.scope id) = true := he
          have hk : (env.kindOf id == some .local) = false := by
            cases e2 : (env.kindOf id == some .local) with
            | false => rfl
            | true =>
              have e3 : env.scope.names.lookup id = some .local := eq_of_beq e2
              unfold locB at he
              rw [e3] at he
              cases he
          show (if (env.kindOf id == some .local && ps.line == ((ts.head?.map (·.pos.line)).getD 0)) = true then some id else none) = none
          rw [hk, Bool.false_and]
          rfl
        | _ => rfl) h
    exact bne_iff_ne.mpr (Nat.ne_of_lt this)
theorem st_none4 {ts vs : List Expr} {a c : Nat} {p q : Pos} {env : PySem.Env} (h : (vs.all (foldedForSure 8) || Nat.blt 3 ts.length || !Nat.beq ts.length vs.length) = true) : swappedStores [.Tuple ts a p] (.Tuple vs c q) env = pure none := by
  simp only [Bool.or_eq_true] at h
  unfold swappedStores
  dsimp only
  split
  · rfl
  rename_i h1
  split
  · rfl
  split
  · rfl
  rcases h with (h | h) | h
  · rw [if_pos h]
  · refine absurd ?_ h1
    have h : 3 < ts.length := Nat.le_of_ble_eq_true h
    have e2 : (ts.length == 2) = false := by simp; omega
    have e3 : (ts.length == 3) = false := by simp; omega
    rw [e2, e3] <;> rfl
  · refine absurd ?_ h1
    have h : Nat.beq ts.length vs.length = false := by simpa using h
    have hne : vs.length ≠ ts.length := fun e => by rw [e, Nat.beq_refl] at h; cases h
    have : (vs.length != ts.length) = true := by simpa using hne
    rw [this]
    simp
theorem st_par3 {x y z : Str} {u v w : Expr} {px py pz p q : Pos} {a c : Nat} {env : PySem.Env} (hx : env.scope.names.lookup x = some .local) (hy : env.scope.names.lookup y = some .local) (hz : env.scope.names.lookup z = some .local) (hl : (py.line == px.line) = true) (hl2 : (pz.line == px.line) = true) (hxy : x ≠ y) (hxz : x ≠ z) (hyz : y ≠ z)
    (hk : env.scope.kind = .function) (hs : plainX u = true) (hs2 : plainX v = true) (hs3 : plainX w = true) (h1 : [u, v, w].all (foldedForSure 8) = false) (h2 : [u, v, w].all (constantsAlone 8) = false) :
    swappedStores [.Tuple [.Name x px, .Name y py, .Name z pz] a p] (.Tuple [u, v, w] c q) env = pure (some [x, y, z]) := by
  have kx : env.kindOf x = some .local := hx
  have ky : env.kindOf y = some .local := hy
  have kz : env.kindOf z = some .local := hz
  have hb : env.blockKind = .function := by unfold Env.blockKind; rw [hk] <;> rfl
  have key : ∀ e : Expr, (match e with | .Starred .. => true | _ => false) = !plainX e := fun e => by cases e <;> rfl
  have hst : ([u, v, w].any fun e => match e with | .Starred .. => true | _ => false) = false := by
    simp only [List.any_cons, List.any_nil, key, hs, hs2, hs3] <;> rfl
  have b1 : (y == x) = false := by simpa using fun e => hxy e.symm
  have b2 : (z == x) = false := by simpa using fun e => hxz e.symm
  have b3 : (z == y) = false := by simpa using fun e => hyz e.symm
  have hd : ([x, y, z] : List Str).eraseDups = [x, y, z] := by
    simp only [List.eraseDups_cons, List.filter_cons, List.filter_nil, List.eraseDups_nil, b1, b2, b3, Bool.not_false, if_true]
  unfold swappedStores
  simp only [hb, h1, h2, hst, kx, ky, kz, hl, hl2, hd, List.filterMap_cons, List.filterMap_nil, List.head?_cons, Option.map_some, Option.getD_some, Expr.pos, beq_self_eq_true, Bool.and_self, List.length_cons, List.length_nil, if_true, if_false, Bool.false_eq_true, Bool.or_true, bne_self_eq_false, Bool.or_self, Bool.not_true]
  refine if_neg ?_
  intro h
  have z := h.symm.trans (show _ = false from hst)
  cases z
theorem st_par {x y : Str} {u v : Expr} {px py p q : Pos} {a c : Nat} {env : PySem.Env} (hx : env.scope.names.lookup x = some .local) (hy : env.scope.names.lookup y = some .local) (hl : (py.line == px.line) = true) (hxy : x ≠ y)
    (hk : env.scope.kind = .function) (hs : plainX u = true) (hs2 : plainX v = true) (h1 : [u, v].all (foldedForSure 8) = false) (h2 : [u, v].all (constantsAlone 8) = false) :
    swappedStores [.Tuple [.Name x px, .Name y py] a p] (.Tuple [u, v] c q) env = pure (some [x, y]) := by
  have kx : env.kindOf x = some .local := hx
  have ky : env.kindOf y = some .local := hy
  have hb : env.blockKind = .function := by unfold Env.blockKind; rw [hk] <;> rfl
  have hst : ([u, v].any fun e => match e with | .Starred .. => true | _ => false) = false := by
    have key : ∀ e : Expr, (match e with | .Starred .. => true | _ => false) = !plainX e := fun e => by cases e <;> rfl
    simp only [List.any_cons, List.any_nil, key, hs, hs2] <;> rfl
  unfold swappedStores
  simp only [hb, h1, h2, hst, kx, ky, hl, List.filterMap_cons, List.filterMap_nil, List.head?_cons, Option.map_some, Option.getD_some, Expr.pos, beq_self_eq_true, Bool.and_self, List.length_cons, List.length_nil, if_true, if_false, Bool.false_eq_true]
  have hxy' : (x == y) = false := by simpa using hxy
  have : ([x, y] : List Str).eraseDups = [x, y] := by
    simp only [List.eraseDups_cons, List.filter_cons, List.filter_nil, List.eraseDups_nil]
    have hyx : (y == x) = false := by simpa using fun e => hxy e.symm
    rw [hyx]
    rfl
  simp [this]
  intro h
  rcases h with h | h
  · split at h
    · cases hs
    · cases h
  · split at h
    · cases hs2
    · cases h
theorem attr_base {o : Expr} {a : Str} {env : PySem.Env} (w : Sem Value) (h : isCl o = false) : attributeBase o a env w = w := by
  unfold attributeBase
  cases o with
  | Call => cases h
  | _ => rfl
def dead : S := .raise 0 .no
def trGen (G : Glo) (N : List Str) (k : Nat) (sc : Scope) (tg e : Expr) : Option S := (trT (trE G N k sc) (fun _ => true) G.k.f N sc 8 tg).bind fun t => (trE G N k sc e).bind fun a => some (.asg t a)
def trPar (G : Glo) (N : List Str) (k : Nat) (sc : Scope) : List Expr → List Expr → Option S
  | [.Name x px, .Name y py], [a, b] => onB (locB sc x && locB sc y && (py.line == px.line) && !decide (x = y) && !([a, b].all (foldedForSure 8)) && !([a, b].all (constantsAlone 8)))
      ((ixOf x N 0).bind fun i => (ixOf y N 0).bind fun j => onB (!Nat.beq i j) ((trL (trE G N k sc) [a, b]).bind fun es => some (.par i j es)))
  | [.Name x px, .Name y py, .Name z pz], [a, b, c] => onB (locB sc x && locB sc y && locB sc z && (py.line == px.line) && (pz.line == px.line) && !decide (x = y) && !decide (x = z) && !decide (y = z) && !([a, b, c].all (foldedForSure 8)) && !([a, b, c].all (constantsAlone 8)))
      ((ixOf x N 0).bind fun i => (ixOf y N 0).bind fun j => (ixOf z N 0).bind fun l => onB (!Nat.beq i j && !Nat.beq i l && !Nat.beq j l) ((trL (trE G N k sc) [a, b, c]).bind fun es => some (.par3 i j l es)))
  | _, _ => none
def trSet (G : Glo) (N : List Str) (k : Nat) (sc : Scope) (x : Str) (px : Pos) (e : Expr) : Option S := onB (locB sc x || cellB sc x) ((ixOf x N 0).bind fun i => (match e with
  | .ListComp _ _ scope p => onB (locB sc x && (px.line == p.line) && !(scope.names.any fun (n, k) => n == x && (k == .local || k == .cell))) ((trE G N k sc e).bind fun a => some (.asg (.tnm i) a))
  | _ => onB (!isComp e) ((trE G N k sc e).bind fun a => some (.asg (.tnm i) a))))
def trAsg (G : Glo) (N : List Str) (k : Nat) (sc : Scope) (tg e : Expr) : Option S := match tg with
  | .Name x px => trSet G N k sc x px e
  | .Tuple ts _ _ => (match e with
    | .Tuple vs _ _ => (match ts.any (fun t => !isOwnX sc t) with
      | true => trGen G N k sc tg e
      | false => (match vs.all (foldedForSure 8) || Nat.blt 3 ts.length || !Nat.beq ts.length vs.length with
        | true => trGen G N k sc tg e
        | false => trPar G N k sc ts vs))
    | _ => trGen G N k sc tg e)
  | .Subscript _ _ _ => trGen G N k sc tg e
  | .Attribute _ _ _ => trGen G N k sc tg e
  | _ => none
def trSs (tr : Stmt → Option S) : List Stmt → S
  | [] => .skip
  | s :: r => .seq ((tr s).getD dead) (trSs tr r)
def notPow : BOp → Bool
  | .pow => false
  | _ => true
def trApp (G : Glo) (N : List Str) (k : Nat) (sc : Scope) (o a : Expr) (apos cpos : Pos) : Option S := onB ((apos.endLine == cpos.line) && plainX a && !isCl o) ((trE G N k sc o).bind fun x => (trE G N k sc a).bind fun y => some (.append x y))
def trExpr (G : Glo) (N : List Str) (k : Nat) (sc : Scope) (e : Expr) : Option S := match e with
  | .Constant (.str _) _ _ => some .skip
  | .Call (.Attribute o at_ apos) [a] [] cpos => (match decide (at_ = ("append" : Str)) with
    | true => trApp G N k sc o a apos cpos
    | false => (trE G N k sc e).bind fun x => some (.expr x))
  | e => onB (!isComp e) ((trE G N k sc e).bind fun x => some (.expr x))
def trRaise (G : Glo) (N : List Str) (k : Nat) (sc : Scope) (x : Str) (a : Expr) : Option S := onB (nodun x && glB sc x && plainX a) ((G.x x).bind fun kb => (match kb.2 with
  | true => (trE G N k sc a).bind fun y => some (.raise kb.1 (.cons y .nil))
  | false => (match a with
    | .Constant (.str _) _ _ => some (.raise kb.1 .nil)
    | _ => none)))
def trS (G : Glo) (N : List Str) (k : Nat) : Nat → Scope → Stmt → Option S
  | 0, _, _ => none
  | n + 1, sc, st => match st with
    | .Expr e _ => trExpr G N k sc e
    | .Return none _ => some (.ret (.const .non))
    | .Return (some e) _ => (trE G N k sc e).bind fun x => some (.ret x)
    | .If c a b _ => (trE G N k sc c).bind fun x => some (.iff x (trSs (trS G N k n sc) a) (trSs (trS G N k n sc) b))
    | .While c b [] _ => (trE G N k sc c).bind fun x => some (.whil x (trSs (trS G N k n sc) b))
    | .For t it b [] _ => (trI (trE G N k sc) G sc (isTupX t) it).bind fun x => (trT (trE G N k sc) (fun _ => true) G.k.f N sc 8 t).bind fun y => some (.forr y x (trSs (trS G N k n sc) b))
    | .Assign [tg] e _ => trAsg G N k sc tg e
    | .AugAssign (.Name x _) op e _ => onB (locB sc x || cellB sc x) ((ixOf x N 0).bind fun i => (opOf op).bind fun o => onB (notPow o) ((trE G N k sc e).bind fun y => some (.aug i o y)))
    | .AugAssign (.Subscript o i _) op e _ => (opOf op).bind fun p => onB (notPow p && !isSlice i) ((trE G N k sc o).bind fun x => (trE G N k sc i).bind fun y => (trE G N k sc e).bind fun z => some (.augs x y p z))
    | .Break _ => some .brk
    | .Continue _ => some .cnt
    | .Pass _ => some .skip
    | .Raise (some (.Call (.Name x _) [a] [] _)) none _ => trRaise G N k sc x a
    | _ => none
structure BC (S : Sta) (G : Glo) (Fs : Fns) (n : Nat) (X : Cx) (W : WX) : Prop where
  g : GC S G Fs n X W
  pass : PassesOwn (model X.prog X.w) X.A X.env X.xe
  fn : ∀ x, X.fn x = true
  kind : X.env.scope.kind = .function
section
variable {S : Sta} {G : Glo} {Fs : Fns} {n : Nat} {X : Cx} {W : WX} {pos : Pos}
theorem loc_of {sc : Scope} {x : Str} (h : (locB sc x || cellB sc x) = true) : Loc sc x := by
  rw [Bool.or_eq_true] at h
  rcases h with h | h
  · exact .inl (locB_ok h)
  · exact .inr (cellB_ok h)
theorem trGen_ok (b : BC S G Fs n X W) {k : Nat} {tg e : Expr} {s : Ev.S} (h : trGen G X.N k X.env.scope tg e = some s) (hn : isNm tg = false) (hw : swappedStores [tg] e X.env = pure none) (hp : plainX tg = true) : PS X (.Assign [tg] e pos) (evS S W (denS Fs s)) := by
  obtain ⟨t, ht, h⟩ := Option.bind_eq_some_iff.mp h
  obtain ⟨a, ha, h⟩ := Option.bind_eq_some_iff.mp h
  cases h
  have T := trE_ok k b.g
  exact q_asg (T _ _ ha).1 (trT_ok T b.g (fun x _ => b.fn x) 8 ht) (sw_tgt hn) hw hp
theorem trPar_ok (b : BC S G Fs n X W) {k : Nat} {ts vs : List Expr} {x1 x2 : Nat} {p1 p2 : Pos} {s : Ev.S} (h : trPar G X.N k X.env.scope ts vs = some s) : PS X (.Assign [.Tuple ts x1 p1] (.Tuple vs x2 p2) pos) (evS S W (denS Fs s)) := by
  unfold trPar at h
  split at h
  · rename_i x px y py e1 e2
    obtain ⟨hc, h⟩ := onB_some h
    simp only [Bool.and_eq_true, Bool.not_eq_true', decide_eq_false_iff_not] at hc
    obtain ⟨⟨⟨⟨⟨hx, hy⟩, hl⟩, hxy⟩, hf⟩, hk⟩ := hc
    obtain ⟨i, hi, h⟩ := Option.bind_eq_some_iff.mp h
    obtain ⟨j, hj, h⟩ := Option.bind_eq_some_iff.mp h
    obtain ⟨hij, h⟩ := onB_some h
    obtain ⟨es, hes, h⟩ := Option.bind_eq_some_iff.mp h
    cases h
    obtain ⟨pa, tl, hp⟩ := trL_ok (trE_ok k b.g) hes
    simp only [List.all_cons, List.all_nil, Bool.and_eq_true] at hp
    exact q_par b.g (ixOf0 hi) (ixOf0 hj) (fun e => by rw [e, Nat.beq_refl] at hij; cases hij) (locB_ok hx) (locB_ok hy) pa tl (st_par (locB_ok hx) (locB_ok hy) hl hxy b.kind hp.1 hp.2.1 hf hk)
  · rename_i x px y py z pz e1 e2 e3
    obtain ⟨hc, h⟩ := onB_some h
    simp only [Bool.and_eq_true, Bool.not_eq_true', decide_eq_false_iff_not] at hc
    obtain ⟨⟨⟨⟨⟨⟨⟨⟨⟨hx, hy⟩, hz⟩, hl⟩, hl2⟩, hxy⟩, hxz⟩, hyz⟩, hf⟩, hk⟩ := hc
    obtain ⟨i, hi, h⟩ := Option.bind_eq_some_iff.mp h
    obtain ⟨j, hj, h⟩ := Option.bind_eq_some_iff.mp h
    obtain ⟨l, hl3, h⟩ := Option.bind_eq_some_iff.mp h
    obtain ⟨hij, h⟩ := onB_some h
    simp only [Bool.and_eq_true, Bool.not_eq_true'] at hij
    obtain ⟨es, hes, h⟩ := Option.bind_eq_some_iff.mp h
    cases h
    obtain ⟨pa, tl, hp⟩ := trL_ok (trE_ok k b.g) hes
    simp only [List.all_cons, List.all_nil, Bool.and_eq_true] at hp
    have nb : ∀ {i j : Nat}, Nat.beq i j = false → i ≠ j := fun {i j} h e => by rw [e, Nat.beq_refl] at h; cases h
    exact q_par3 b.g (ixOf0 hi) (ixOf0 hj) (ixOf0 hl3) (nb hij.1.1) (nb hij.1.2) (nb hij.2) (locB_ok hx) (locB_ok hy) (locB_ok hz) pa tl (st_par3 (locB_ok hx) (locB_ok hy) (locB_ok hz) hl hl2 hxy hxz hyz b.kind hp.1 hp.2.1 hp.2.2.1 hf hk)
  · cases h
theorem comp_set (b : BC S G Fs n X W) {k i : Nat} {x : Str} {px p : Pos} {elt : Expr} {gens : List Comprehension} {scope : Scope} {a : E} (hx : X.env.scope.names.lookup x = some .local) (hi : X.N[i]? = some x)
    (hl : (px.line == p.line) = true) (ho : (scope.names.any fun (n, k) => n == x && (k == .local || k == .cell)) = false)
    (h : trE G X.N k X.env.scope (.ListComp elt gens scope p) = some a) : PS X (.Assign [.Name x px] (.ListComp elt gens scope p) pos) (evS S W (denS Fs (.asg (.tnm i) a))) := by
  cases k with
  | zero => cases h
  | succ k =>
    have g := b.g
    have T := trE_ok k g
    unfold trE at h
    dsimp only at h
    split at h
    · rename_i tg iter ifs
      obtain ⟨hb, h⟩ := onB_some h
      obtain ⟨it, hit, h⟩ := Option.bind_eq_some_iff.mp h
      obtain ⟨t, ht, h⟩ := Option.bind_eq_some_iff.mp h
      obtain ⟨hL, h⟩ := onB_some h
      obtain ⟨y, hy, h⟩ := Option.bind_eq_some_iff.mp h
      obtain ⟨hi', hs⟩ := trI_ok T g (tg := tg) hit
      have hL' : ∀ i ∈ t.slots, i ∈ (ownOf X.N scope.names).map (·.2) := fun i hi => List.contains_iff_mem.mp (List.all_eq_true.mp hL i hi)
      have key : ∀ (s : Shared) (H : Hp) (C : Addr) (cl : List (Str × Addr)) (fp : List Addr), Tr S Fs (X.blk s H scope (compEnvC scope cl C X.env) fp) W0 (trE G X.N k (relS scope X.env.scope)) := fun s H C cl fp => trE_ok k (g.blk s H scope (compEnvC scope cl C X.env) fp)
      have sw := sw_true (elt := elt) (gs := [⟨tg, iter, ifs, 0⟩]) (scope := scope) (pos := p) (py := px) (l := pos.line) b.kind hx hl ho
      have fin : ∀ {fc : Rho → MV D} {ft fs fe}, (∀ D σ H, evS S W (asgS (compM ((ownOf X.N scope.names).map (·.2)) ft fs fc fe) (tnmM i)) D σ H → tAsg (tLc (evI S W fs) (evG S t.slots ft) (evB S W0 (testM fc)) (evE S W0 fe) ((ownOf X.N scope.names).map (·.2))) (gName i) D σ H) := fun {fc ft fs fe} D σ H ⟨ι, ρ, m, rs, M, q⟩ =>
        lc_go hL' (st_then rs M q fun d v ι1 m1 H1 rs1 M1 T1 rv q => (q.st rs1 M1) ι1 H1 (Step.refl M1) |>.2.2.2 ι1 H1 _ (Step.refl M1) (rs1.set rv i))
      split at h
      · cases h
        exact psI (ps_setLc g.calm g.nd hi hx sw hi' (blkOk_by hb) (fun s H C cl fp => trT_ok (key s H C cl fp) (g.blk s H scope (compEnvC scope cl C X.env) fp) (fun _ z => z) 8 ht)
            (fun s H C cl fp => ⟨fun pins s1 σ H1 Q I ⟨ι, ρ, m, rs, M, p⟩ => pts_nil.run pins s1 σ H1 Q I (PostG.ok M p)⟩) (fun s H C cl fp => (key s H C cl fp _ _ hy).1) hs) (fin (fc := (den Fs .yes).e))
      · obtain ⟨z, hz, h⟩ := Option.bind_eq_some_iff.mp h
        cases h
        exact psI (ps_setLc g.calm g.nd hi hx sw hi' (blkOk_by hb) (fun s H C cl fp => trT_ok (key s H C cl fp) (g.blk s H scope (compEnvC scope cl C X.env) fp) (fun _ z => z) 8 ht)
            (fun s H C cl fp => pts_one (key s H C cl fp _ _ hz).2) (fun s H C cl fp => (key s H C cl fp _ _ hy).1) hs) fin
      · cases h
    · cases h
theorem trSet_ok (b : BC S G Fs n X W) {k : Nat} {x : Str} {px : Pos} {e : Expr} {s : Ev.S} (h : trSet G X.N k X.env.scope x px e = some s) : PS X (.Assign [.Name x px] e pos) (evS S W (denS Fs s)) := by
  obtain ⟨hc, h⟩ := onB_some h
  obtain ⟨i, hi, h⟩ := Option.bind_eq_some_iff.mp h
  split at h
  · obtain ⟨hc, h⟩ := onB_some h
    simp only [Bool.and_eq_true, Bool.not_eq_true'] at hc
    obtain ⟨a, ha, h⟩ := Option.bind_eq_some_iff.mp h
    cases h
    exact comp_set b (locB_ok hc.1.1) (ixOf0 hi) hc.1.2 hc.2 ha
  · obtain ⟨hn, h⟩ := onB_some h
    obtain ⟨a, ha, h⟩ := Option.bind_eq_some_iff.mp h
    cases h
    exact q_set b.g (ixOf0 hi) (loc_of hc) (.inl (b.fn x)) ((trE_ok k b.g) _ _ ha).1 (sw_not (by simpa using hn))
theorem trAsg_ok (b : BC S G Fs n X W) {k : Nat} {tg e : Expr} {s : Ev.S} (h : trAsg G X.N k X.env.scope tg e = some s) : PS X (.Assign [tg] e pos) (evS S W (denS Fs s)) := by
  unfold trAsg at h
  split at h
  · exact trSet_ok b h
  · split at h
    · split at h
      · rename_i hm
        exact trGen_ok b h rfl (st_none3 hm) rfl
      · split at h
        · rename_i hm
          exact trGen_ok b h rfl (st_none4 hm) rfl
        · exact trPar_ok b h
    · rename_i hm
      exact trGen_ok b h rfl (st_none2 (by cases e <;> first | rfl | exact absurd rfl (hm _ _ _))) rfl
  · exact trGen_ok b h rfl (st_none1 rfl rfl) rfl
  · exact trGen_ok b h rfl (st_none1 rfl rfl) rfl
  · cases h
theorem trExpr_ok (b : BC S G Fs n X W) {k : Nat} {e : Expr} {s : Ev.S} (h : trExpr G X.N k X.env.scope e = some s) : PS X (.Expr e pos) (evS S W (denS Fs s)) := by
  unfold trExpr at h
  split at h
  · cases h
    exact q_doc
  · rename_i o at_ apos a cpos
    split at h
    · rename_i hd
      have hd := of_decide_eq_true hd
      subst hd
      obtain ⟨hc, h⟩ := onB_some h
      simp only [Bool.and_eq_true, Bool.not_eq_true'] at hc
      obtain ⟨⟨hl, hp⟩, ho⟩ := hc
      obtain ⟨x, hx, h⟩ := Option.bind_eq_some_iff.mp h
      obtain ⟨y, hy, h⟩ := Option.bind_eq_some_iff.mp h
      cases h
      have T := trE_ok k b.g
      exact q_append b.g (T _ _ hx).1 (T _ _ hy).1 hp (attr_base _ ho) hl
    · obtain ⟨x, hx, h⟩ := Option.bind_eq_some_iff.mp h
      cases h
      exact q_expr ((trE_ok k b.g) _ _ hx).1 (sw_not rfl)
  · obtain ⟨hn, h⟩ := onB_some h
    obtain ⟨a, ha, h⟩ := Option.bind_eq_some_iff.mp h
    cases h
    exact q_expr ((trE_ok k b.g) _ _ ha).1 (sw_not (by simpa using hn))
theorem trRaise_ok (b : BC S G Fs n X W) {k : Nat} {x : Str} {a : Expr} {p cp : Pos} {s : Ev.S} (h : trRaise G X.N k X.env.scope x a = some s) : PS X (.Raise (some (.Call (.Name x p) [a] [] cp)) none pos) (evS S W (denS Fs s)) := by
  obtain ⟨hc, h⟩ := onB_some h
  simp only [Bool.and_eq_true] at hc
  obtain ⟨kb, hx, h⟩ := Option.bind_eq_some_iff.mp h
  obtain ⟨k', b'⟩ := kb
  have hd := (nodun_ok hc.1.1).1
  cases b' with
  | true =>
    obtain ⟨y, hy, h⟩ := Option.bind_eq_some_iff.mp h
    cases h
    exact q_raise1 b.g hx (glB_ok hc.1.2) hd ((trE_ok k b.g) _ _ hy).1 hc.2
  | false =>
    dsimp only at h
    split at h
    · cases h
      exact q_raise0 b.g hx (glB_ok hc.1.2) hd
    · cases h
theorem trSs_ok {tr : Stmt → Option Ev.S} (T : ∀ st s, tr st = some s → PS X st (evS S W (denS Fs s))) : ∀ (sts : List Stmt), PSs X sts (evS S W (denS Fs (trSs tr sts)))
  | [] => q_nil
  | st :: r => by
    refine q_cons (f := denS Fs ((tr st).getD dead)) ?_ (trSs_ok T r)
    cases e : tr st with
    | none => exact q_dead fun _ _ => rfl
    | some s => exact T st s e
/-- from the start of a def on -/
def evT (S : Sta) (W : WX) (f : Nat → Rho → Mem → OutS) : TS := fun D σ H => ∃ ι0 m0 H0 ι ρ m, Step S ι0 m0 H0 ι m H ∧ RepS S ι m.nx H ρ σ ∧ PostS S W ι0 m0 H0 D (f m0.nx ρ m)
theorem RepS.wipe' {ι : Nat → Addr} {nx : Nat} {H : Hp} {ρ : Rho} {σ : L2.St} (r : RepS S ι nx H ρ σ) (vs : List Nat) : RepS S ι nx H (wipeR ρ vs) σ :=
  ⟨by rw [wipeR_len]; exact r.len, fun i d h => r.at_ i d (getR_wipe h).1⟩
theorem trTop_ok {tr : Stmt → Option Ev.S} (T : ∀ st s, tr st = some s → PS X st (evS S W (denS Fs s))) : ∀ (dr : List (List Nat)) (sts : List Stmt), PSs X sts (evT S W fun n => denTop Fs n dr (trSs tr sts))
  | [], sts => pssI (trSs_ok T sts) fun D σ H ⟨ι0, m0, H0, ι, ρ, m, T0, rs, p⟩ => ⟨ι, ρ, m, rs, T0.mem, PostS.step T0 (show PostS S W ι0 m0 H0 D (denS Fs (trSs tr sts) ρ m) from p)⟩
  | vs :: dr, [] => pssI (trSs_ok T []) fun D σ H ⟨ι0, m0, H0, ι, ρ, m, T0, rs, p⟩ => ⟨ι, ρ, m, rs, T0.mem, PostS.step T0 (show PostS S W ι0 m0 H0 D (denS Fs .skip ρ m) from p)⟩
  | vs :: dr, st :: r => by
    have h1 : PS X st (evS S W (denS Fs ((tr st).getD dead))) := by
      cases e : tr st with
      | none => exact q_dead fun _ _ => rfl
      | some s => exact T st s e
    refine pssI (pss_cons h1 (trTop_ok T dr r)) fun D σ H ⟨ι0, m0, H0, ι, ρ, m, T0, rs, p⟩ => ⟨ι, ρ, m, rs, T0.mem, ?_⟩
    have p : PostS S W ι0 m0 H0 D (match denS Fs ((tr st).getD dead) ρ m with
      | .nx ρ' m' => denTop Fs m0.nx dr (trSs tr r) (wipeR ρ' vs) (tdMin 64 m0.nx (wipeR ρ' vs) m')
      | o => o) := p
    cases e : denS Fs ((tr st).getD dead) ρ m with
    | nx ρ' m' =>
      rw [e] at p
      exact fun ι' H' σ' z q => ⟨ι0, m0, H0, ι', wipeR ρ' vs, _, (T0.trans z).tidyMin _ 64 _ (Nat.le_refl _), (q.wipe' vs).tidyMin 64 _, p⟩
    | brk ρ' m' => rw [e] at p; exact PostS.step T0 p
    | cnt ρ' m' => rw [e] at p; exact PostS.step T0 p
    | ret d m' => rw [e] at p; exact PostS.step T0 p
    | exc x ρ' m' => rw [e] at p; exact PostS.step T0 p
    | bad => rw [e] at p; exact p.elim
theorem trS_ok (b : BC S G Fs n X W) (k : Nat) : ∀ j {st : Stmt} {s : Ev.S}, trS G X.N k j X.env.scope st = some s → PS X st (evS S W (denS Fs s))
  | 0, _, _, h => by cases h
  | j + 1, st, s, h => by
    have T := trE_ok k b.g
    have R := fun sts => trSs_ok (fun st s h => trS_ok b k j h) sts
    unfold trS at h
    split at h
    · exact trExpr_ok b h
    · cases h; exact q_ret0
    · obtain ⟨a, ha, h⟩ := Option.bind_eq_some_iff.mp h
      cases h
      exact q_ret (T _ _ ha).1
    · obtain ⟨a, ha, h⟩ := Option.bind_eq_some_iff.mp h
      cases h
      exact q_if (T _ _ ha).2 (R _) (R _)
    · obtain ⟨a, ha, h⟩ := Option.bind_eq_some_iff.mp h
      cases h
      exact q_while b.pass (T _ _ ha).2 (R _)
    · obtain ⟨a, ha, h⟩ := Option.bind_eq_some_iff.mp h
      obtain ⟨t, ht, h⟩ := Option.bind_eq_some_iff.mp h
      cases h
      obtain ⟨hi, hs⟩ := trI_ok T b.g ha
      exact q_for b.g b.pass hi (trT_ok T b.g (fun x _ => b.fn x) 8 ht) (R _) hs
    · exact trAsg_ok b h
    · obtain ⟨hc, h⟩ := onB_some h
      obtain ⟨i, hi, h⟩ := Option.bind_eq_some_iff.mp h
      obtain ⟨o, ho, h⟩ := Option.bind_eq_some_iff.mp h
      obtain ⟨hn, h⟩ := onB_some h
      obtain ⟨a, ha, h⟩ := Option.bind_eq_some_iff.mp h
      cases h
      rw [opOf_ok ho]
      exact q_aug b.g (ixOf0 hi) (loc_of hc) (.inl (b.fn _)) (T _ _ ha).1 (fun e => by rw [e] at hn; cases hn)
    · obtain ⟨o, ho, h⟩ := Option.bind_eq_some_iff.mp h
      obtain ⟨hn, h⟩ := onB_some h
      rw [Bool.and_eq_true, Bool.not_eq_true'] at hn
      obtain ⟨x, hx, h⟩ := Option.bind_eq_some_iff.mp h
      obtain ⟨y, hy, h⟩ := Option.bind_eq_some_iff.mp h
      obtain ⟨z, hz, h⟩ := Option.bind_eq_some_iff.mp h
      cases h
      rw [opOf_ok ho]
      exact q_augs b.g (T _ _ hx).1 (T _ _ hy).1 (T _ _ hz).1 (fun e => by rw [e] at hn; cases hn.1) fun a b c p e => by rw [e] at hn; cases hn.2
    · cases h; exact q_break
    · cases h; exact q_cont
    · cases h; exact q_pass
    · exact trRaise_ok b h
    · cases h
end
end Ev

set_option Elab.async false
set_option linter.all false
set_option maxRecDepth 100000
set_option maxHeartbeats 4000000
namespace Ev
open PySem PySem.Spec PyProof.Rows L2

/-! ## functions -/
section
variable {P : Program} {w : World} {K : PySem.W.Frag} {mg : Str → Option Value} {base : Heap}
theorem fng_of {k : Nat} {f : Addr} {x q : Str} {pm : Arguments} {body : List Stmt} {sc : Scope} {v1 v2 v3 v4 cd v5 oc : Value} {an od : Option Addr} {osl : Array (Option Value)} {N ps : List Str} {sp : Sp}
    (hf : K.lookup f = some ⟨oc, od, .func (PySem.W.fnOf x q pm body sc v1 v2 v3 v4 an cd v5), osl⟩) (hc : PySem.W.codeIn K cd q = true) (fs : FnScope N ps sc)
    (hb : ∀ (A : Around) (out : List PySem.Env) (t : Shared) (H : Hp) (vs : List V) (Q : VK) (E : XK), Room k (A.deeper (envOfC q sc t.heap.objs.size f cd)) → A.guards = some [] → sp vs H Q E →
      ∃ T, PSs (cxOf (L2.CX P w) P w K mg base N q sc f cd A out t H E) body T ∧ T { nx := fun _ H' => Q .non H', rt := Q } (L2.start N vs) H) :
    FnG P w K mg base (k + 1) f (PySem.W.fnOf x q pm body sc v1 v2 v3 v4 an cd v5) ps sp where
  run := by
    intro A out t H args us vs Q E hr hg e0 hbi rv hl hsp
    have inK := e0.mod.kin.keeps fun b o e => (e0.bs b o e).1
    have nol := e0.mod.nolimit.keeps fun b o e => (e0.bs b o e).1
    have kinds : ∀ y ∈ ps.zip us, sc.names.lookup y.1 = some .local ∨ (sc.names.lookup y.1 = some .cell ∧ ((cellsFrom (t.heap.objs.size + 1) sc.names []).lookup y.1).isSome = true) := by
      intro y hy
      rcases fs.par y.1 (List.of_mem_zip hy).1 with h | h
      · exact .inl h
      · exact .inr ⟨h, PySem.W.cellsFrom_some _ _ _ (.inl h)⟩
    refine codeAny_call_function hr.depth (inK _ _ hf) rfl fs.co fs.gen rfl (PySem.W.codeRec_of inK hc) (hbi _ _ _ _ ?_)
    refine wpAny_newFunctionEnv_cells fs.kind kinds fun env he t1 ic => ?_
    subst he
    refine ⟨nol.keeps ic.toInCall.keep, codeAny_func ?_⟩
    obtain ⟨T, hT, hq⟩ := hb A out t H vs Q E (hr.deeper _) hg hsp
    have I := inv_start (CX := L2.CX P w) (K := K) (mg := mg) (E := E) fs hr.hd e0 hl rv ic
    refine wpAny_mono (hT.run [] t1 (L2.start N vs) H _ I hq) (fun fl t2 hs => ?_) fun _ _ z => z
    cases fl with
    | ret u =>
      obtain ⟨v, σ2, H2, J, rv2, hq2⟩ := hs
      exact ⟨v, H2, J.os, J.bare, J.base, J.hok, rv2, hq2⟩
    | next =>
      obtain ⟨σ2, H2, J, hq2⟩ := hs
      exact ⟨V.non, H2, J.os, J.bare, J.base, J.hok, rfl, hq2⟩
    | brk => exact hs.elim fun _ z => z.elim fun _ z => z.2.elim
    | cont => exact hs.elim fun _ z => z.elim fun _ z => z.2.elim
end
theorem getR_app {a b : Rho} {i : Nat} {d : D} (hb : ∀ i d, getR b i ≠ some d) : getR (a ++ b) i = some d → getR a i = some d := by
  induction a generalizing i with
  | nil => intro h; exact absurd h (hb i d)
  | cons x r ih =>
    intro h
    cases i with
    | zero => exact h
    | succ i => exact ih h
section
variable {S : Sta} {ι : Nat → Addr} {nx : Nat} {H : Hp}
theorem RepVs.at {ds : List D} {vs : List V} (r : RepVs S ι nx H ds vs) {i : Nat} {d : D} : getR (ds.map some) i = some d → ∃ v, (vs.map some)[i]? = some (some v) ∧ RepV S ι nx H d v := by
  induction ds generalizing vs i with
  | nil => intro h; cases h
  | cons e ds ih =>
    cases r with
    | cons r1 r =>
      intro h
      cases i with
      | zero => cases h; exact ⟨_, rfl, r1⟩
      | succ i => exact ih r h
theorem start_rep {f : Fn} {ds : List D} {vs : List V} {N : List Str} (r : RepVs S ι nx H ds vs) (hN : N.length = f.nl) : RepS S ι nx H (startR f ds) (L2.start N vs) where
  len := by
    unfold startR L2.start
    rw [List.length_append, List.length_append, List.length_map, List.length_map, List.length_replicate, List.length_replicate, r.len, hN]
  at_ := fun i d h => by
    obtain ⟨v, h1, h2⟩ := r.at (getR_app (fun i d => getR_rep i d) h)
    refine ⟨v, ?_, h2⟩
    unfold L2.start
    have hi : i < (vs.map some).length := by
      rw [List.getElem?_eq_some_iff] at h1
      exact h1.1
    rw [List.getElem?_append_left hi]
    exact h1
end
/-! ## the def's table -/
structure Ent where
  d : He.DefD
  ps : List Str
  N : List Str
  np : Nat
  nl : Nat
  lam : Bool
  body : S
  dr : List (List Nat)
def Ent.fn (e : Ent) : Fn := ⟨e.np, e.nl, e.body, e.dr⟩
def nmS (f : Str × Option Str) : Str := f.1
/-- what is asked of an entry, of its text alone -/
def plainPar (p : Arguments) (ps : List Str) : Bool := match p with
  | ⟨[], as, none, [], [], none, []⟩ => decide (as.map (·.arg) = ps)
  | _ => false
def scopeB (N ps : List Str) (sc : Scope) : Bool := decide (sc.kind = .function) && !sc.isCoroutine && !sc.isGenerator && decide N.Nodup && decide (N.take ps.length = ps) &&
  (ps.all fun x => decide (sc.names.lookup x = some .local) || decide (sc.names.lookup x = some .cell)) && sc.names.all fun y => decide (y.2 ≠ .free)
theorem scopeB_ok {N ps : List Str} {sc : Scope} (h : scopeB N ps sc = true) : FnScope N ps sc := by
  simp only [scopeB, Bool.and_eq_true, Bool.not_eq_true', decide_eq_true_eq, List.all_eq_true, Bool.or_eq_true] at h
  obtain ⟨⟨⟨⟨⟨⟨h1, h2⟩, h3⟩, h4⟩, h5⟩, h6⟩, h7⟩ := h
  exact ⟨h1, h2, h3, h4, h5, h6, h7⟩
theorem filt_nil : ∀ {ps : List Str} {us : List Value} (qs : List Str), us.length = ps.length → (∀ x ∈ qs, x ∈ ps) → (qs.filter fun n => ((ps.zip us).lookup n).isNone) = [] := by
  intro ps us qs hl hq
  rw [List.filter_eq_nil_iff]
  intro x hx
  have key : ∀ {ps : List Str} {us : List Value}, us.length = ps.length → x ∈ ps → ((ps.zip us).lookup x).isSome = true := by
    intro ps
    induction ps with
    | nil => intro us _ h; cases h
    | cons p ps ih =>
      intro us hl h
      cases us with
      | nil => cases hl
      | cons u us =>
        rw [List.zip_cons_cons, List.lookup_cons]
        by_cases e : (x == p) = true
        · rw [e]; rfl
        · have e : (x == p) = false := by simpa using e
          rw [e]
          rcases List.mem_cons.mp h with rfl | h
          · simp at e
          · exact ih (by simpa using hl) h
  have := key hl (hq x hx)
  rw [Option.isSome_iff_ne_none] at this
  simpa using this
theorem zip_map : ∀ {ps : List Str} {us : List Value}, us.length = ps.length → ps.Nodup → (ps.filterMap fun n => ((ps.zip us).lookup n).map (n, ·)) = ps.zip us
  | [], _, _, _ => rfl
  | p :: ps, [], h, _ => by cases h
  | p :: ps, u :: us, h, nd => by
    obtain ⟨h1, h2⟩ := List.nodup_cons.mp nd
    have ih := zip_map (ps := ps) (us := us) (by simpa using h) h2
    rw [List.zip_cons_cons, List.filterMap_cons, List.lookup_cons]
    simp only [beq_self_eq_true, Option.map_some]
    congr 1
    have key : ∀ qs : List Str, (∀ x ∈ qs, x ≠ p) → (qs.filterMap fun n => (((p, u) :: ps.zip us).lookup n).map (n, ·)) = qs.filterMap fun n => ((ps.zip us).lookup n).map (n, ·) := by
      intro qs
      induction qs with
      | nil => intro _; rfl
      | cons x qs ih =>
        intro hq
        have e : (x == p) = false := by simpa using hq x (List.mem_cons_self ..)
        rw [List.filterMap_cons, List.filterMap_cons, List.lookup_cons, e, ih fun y hy => hq y (List.mem_cons_of_mem _ hy)]
    rw [key ps fun x hx e => h1 (e ▸ hx), ih]
theorem plain_bind0 {x q : Str} {as : List Arg} {body : List Stmt} {sc : Scope} {kV doc pmv : Value} {an : Option Addr} {cd ct : Value} (us : List Value) (hl : us.length = as.length) (nd : (as.map (·.arg)).Nodup) :
    bindArgs (PySem.W.fnOf x q ⟨[], as, none, [], [], none, []⟩ body sc .none kV doc pmv an cd ct) ⟨us, []⟩ = pure ((as.map (·.arg)).zip us) := by
  have e1 : seqItems? Value.none = pure none := rfl
  have hl' : us.length = (as.map (·.arg)).length := by rw [List.length_map]; exact hl
  have k1 := filt_nil (as.map (·.arg)) hl' fun x hx => hx
  have k2 := zip_map hl' nd
  unfold bindArgs PySem.W.fnOf
  simp only [List.map_nil, List.nil_append, List.append_nil, e1, pure_bind, Option.getD_none, List.drop_nil, List.length_nil, Nat.sub_zero, List.zip_nil_right, List.forIn_nil, List.take_length, k1, k2, List.isEmpty_nil, Bool.not_true, hl', Nat.lt_irrefl, gt_iff_lt, decide_false, Bool.false_and, if_false, Bool.false_eq_true, List.filter_nil]
theorem plain_bind {x q : Str} {pm : Arguments} {body : List Stmt} {sc : Scope} {kV doc pmv : Value} {an : Option Addr} {cd ct : Value} {ps : List Str} (h : plainPar pm ps = true) (nd : ps.Nodup) (us : List Value) (hl : us.length = ps.length) :
    bindArgs (PySem.W.fnOf x q pm body sc .none kV doc pmv an cd ct) ⟨us, []⟩ = pure (ps.zip us) := by
  unfold plainPar at h
  split at h
  · have h := of_decide_eq_true h
    subst h
    rw [List.length_map] at hl
    exact plain_bind0 us hl nd
  · cases h
def Ent.good (e : Ent) : Bool := plainPar e.d.params e.ps && scopeB e.N e.ps e.d.scope && Nat.beq e.ps.length e.np && Nat.beq e.N.length e.nl && e.d.dfl.isEmpty && e.d.kwd.isEmpty
theorem metShape_eq {G G' : Glo} (hb : G.b = G'.b) (hx : G.x = G'.x) (hf : G.xf = G'.xf) (N : List Str) (sg : Scope) (a : Str) (bg : List Stmt) : metShape G N sg a bg = metShape G' N sg a bg := by
  have h1 : ∀ h, trHd G N sg h = trHd G' N sg h := fun h => by unfold trHd; rw [hb, hx, hf]
  have h2 : ∀ hs, trHds G N sg hs = trHds G' N sg hs := fun hs => by
    induction hs with
    | nil => rfl
    | cons h r ih => unfold trHds; rw [h1, ih]
  unfold metShape
  split <;> simp only [h2]
/-- what a def may name: lambdas only where the table says so -/
def Ent.glo (G : Glo) (e : Ent) : Glo := match e.lam with
  | true => { G with l := true }
  | false => { G with m := fun _ => none, l := false }
def Ent.src (G : Glo) (e : Ent) : S := trSs (trS (e.glo G) e.N 60 60 e.d.scope) e.d.body
def Ent.lamName (e : Ent) : Str := e.d.qual ++ ".<locals>." ++ "<lambda>"
def tabT (es : List Ent) (k : Nat) : Option Fn := (es[k]?).map Ent.fn
/-- where the defs stand -/
def faOf (K : PySem.W.Frag) (es : List Ent) (k : Nat) : Addr := match es[k]? with
  | some e => He.fAd K e.d.at_
  | none => (match es with
    | e :: _ => He.fAd K e.d.at_
    | [] => 0)
/-- what the end gives -/
structure Facts (P : Program) (S : Sta) (G : Glo) (es : List Ent) (mg : Str → Option Value) : Prop where
  fa : S.fa = faOf S.K es
  gl : ∀ x d, G.g x = some d → ∃ u v, mg x = some u ∧ RelV v u ∧ ∀ ι nx H, RepV S ι nx H d v
  bl : ∀ x, G.b x = true → mg x = none
  kp : ∀ k, PySem.W.keepIn S.K (.ref (S.fa k)) = true
  df : ∀ e ∈ es, ∃ fd, FunD S.K e.d.name e.d.qual e.d.params e.d.body e.d.scope (e.d.dvs S.K) (e.d.kws S.K) (He.fAd S.K e.d.at_) fd
  sup : mg "super" = none
  xf : ∀ k, S.cf k = G.xf k
  xk : ∀ x k b, G.x x = some (k, b) → k < G.xn ∧ XOk P S.K mg S x k b
  xe : ∀ i j, i < G.xn → j < G.xn → PySem.W.exmOne S.K (.ref (S.ca i)) (.ref (S.ca j)) = some (Nat.beq i j)
  mt : ∀ x hs d, G.m x = some (hs, d) → ∃ e ∈ es, e.d.name = x ∧ e.d.qual = x ∧ mg x = some (.ref (He.fAd S.K e.d.at_)) ∧ PySem.W.keepIn S.K (.ref (He.fAd S.K e.d.at_)) = true ∧ ∃ a, e.ps = [a] ∧ nodun a = true ∧ metShape G e.N e.d.scope a e.d.body = some (hs, d)
  kl : KOk S S.K mg G.k
  lt : ∀ e ∈ es, e.lam = true → ((He.cT S.K e.d.at_).2, e.lamName) ∈ S.tb ∧ ∀ p ∈ S.tb, p.1 = (He.cT S.K e.d.at_).2 → p.2 = e.lamName
/-- the tables of the defs that make lambdas, over a base -/
def TabsB (S : Sta) (es : List Ent) (base : Heap) (mg : Str → Option Value) : Prop := ∀ e ∈ es, e.lam = true → LamX.TabB base mg (He.cT S.K e.d.at_).1 (He.cT S.K e.d.at_).2
section
variable {S : Sta} {G : Glo} {es : List Ent} {mg : Str → Option Value} {P : Program} {w : World}
theorem RepX.tidy {ι' : Nat → Addr} {n : Nat} {m' : Mem} {H' : Hp} {x : Ex} {cls : Value} {dd : Option Addr} (r : RepX S ι' m'.nx H' x cls dd) (h : lowDs n x.arg = true) : RepX S ι' (tdM n m').nx H' x cls dd := by
  unfold tdM
  cases c : canCut n m' with
  | false => exact r
  | true =>
    obtain ⟨r1, r2⟩ := r
    refine ⟨r1, ?_⟩
    cases e : x.arg with
    | nil => trivial
    | cons d ds =>
      rw [e] at r2 h
      obtain ⟨a, fs, v, h1, h2, h3, h4⟩ := r2
      have h : (match lowD n d with | true => lowDs n ds | false => false) = true := h
      cases q : lowD n d with
      | true => exact ⟨a, fs, v, h1, h2, h3, h4.low q⟩
      | false => rw [q] at h; cases h
theorem fin_post {ι : Nat → Addr} {m : Mem} {H : Hp} {Q : VK} {E : XK} {o : OutS} (p : PostG S ι m H E (fin m.nx o) fun d ι' m' H' => ∀ v, RepV S ι' m'.nx H' d v → Q v H') :
    PostS S (fun cls d _ H => E cls d H) ι m H { nx := fun _ H' => Q .non H', rt := Q } o := by
  cases o with
  | nx ρ m' => exact fun ι' H' σ' T _ => p ι' H' T.tidy _ .non
  | ret d m' =>
    refine fun ι' H' v T r => ?_
    have p : PostG S ι m H E (finM m.nx d m') fun d ι' m' H' => ∀ v, RepV S ι' m'.nx H' d v → Q v H' := p
    have stay : PostG S ι m H E (.ok d m') (fun d ι' m' H' => ∀ v, RepV S ι' m'.nx H' d v → Q v H') → Q v H' := fun p => p ι' H' T v r
    unfold finM at p
    cases c : canCut m.nx m' with
    | false => rw [c] at p; exact stay p
    | true =>
      rw [c] at p
      cases l : lowD m.nx d with
      | true => rw [l] at p; exact p ι' H' (T.cut c) v (r.low l)
      | false =>
        rw [l] at p
        cases r with
        | @ref k hk =>
          dsimp only at p
          cases e : m'.get k with
          | none => rw [e] at p; exact stay p
          | some u =>
            rw [e] at p
            cases u with
            | lst ds =>
              dsimp only at p
              cases l2 : lowDs m.nx ds with
              | false => rw [l2] at p; exact stay p
              | true =>
                rw [l2] at p
                have hn : m.nx ≤ k := Nat.le_of_not_lt fun h => by
                  have l : Nat.blt k m.nx = false := l
                  rw [show Nat.blt k m.nx = true from Nat.ble_eq_true_of_le h] at l
                  cases l
                have rv : RepV S (bump ι' m.nx (ι' k)) (m.nx + 1) H' (.ref m.nx) (.ref (bump ι' m.nx (ι' k) m.nx)) := .ref (Nat.lt_succ_self _)
                rw [bump_same] at rv
                exact p _ H' (T.move c e rfl hn l2) _ rv
            | rol ds => exact stay p
            | kol ds => exact stay p
            | scr ns => exact stay p
            | ins j fs =>
              dsimp only at p
              cases l2 : lowF m.nx fs with
              | false => rw [l2] at p; exact stay p
              | true =>
                rw [l2] at p
                have hn : m.nx ≤ k := Nat.le_of_not_lt fun h => by
                  have l : Nat.blt k m.nx = false := l
                  rw [show Nat.blt k m.nx = true from Nat.ble_eq_true_of_le h] at l
                  cases l
                have rv : RepV S (bump ι' m.nx (ι' k)) (m.nx + 1) H' (.ref m.nx) (.ref (bump ι' m.nx (ι' k) m.nx)) := .ref (Nat.lt_succ_self _)
                rw [bump_same] at rv
                exact p _ H' (T.move c e rfl hn l2) _ rv
        | _ => exact stay p
  | exc x ρ m' =>
    refine fun ι' H' σ' cls dd T _ r => ?_
    have p : PostG S ι m H E (match lowDs m.nx x.arg with | true => .exc x (tdM m.nx m') | false => .exc x m') (fun d ι' m' H' => ∀ v, RepV S ι' m'.nx H' d v → Q v H') := p
    cases l : lowDs m.nx x.arg with
    | true => rw [l] at p; exact p ι' H' cls dd T.tidy (r.tidy l)
    | false => rw [l] at p; exact p ι' H' cls dd T r
  | brk ρ m' => exact False.elim p
  | cnt ρ m' => exact False.elim p
  | bad => exact p
def Lvl (S : Sta) (es : List Ent) (mg : Str → Option Value) (P : Program) (w : World) (n : Nat) : Prop := ∀ k ds m, run (tabT es) n k ds m ≠ .bad →
  ∃ fd ps, Binds S.K fd ps [] ∧ (∀ ds m, run (tabT es) n k ds m ≠ .bad → ds.length = ps.length) ∧ ∀ base, TabsB S es base mg → FnG P w S.K mg base (n + 8) (S.fa k) fd ps (spF S (run (tabT es) n) k)
/-- an entry's def, as it stands in the written part -/
theorem ent_fn (FX : Facts P S G es mg) {e : Ent} (he : e ∈ es) (hg : e.good = true) : ∃ (oc : Value) (od : Option Addr) (dV kV doc pm cd ct : Value) (an : Option Addr) (osl : Array (Option Value)),
    S.K.lookup (He.fAd S.K e.d.at_) = some ⟨oc, od, .func (PySem.W.fnOf e.d.name e.d.qual e.d.params e.d.body e.d.scope dV kV doc pm an cd ct), osl⟩ ∧ PySem.W.codeIn S.K cd e.d.qual = true ∧
    Binds S.K (PySem.W.fnOf e.d.name e.d.qual e.d.params e.d.body e.d.scope dV kV doc pm an cd ct) e.ps [] ∧ FnScope e.N e.ps e.d.scope := by
  obtain ⟨fd, FD⟩ := FX.df e he
  simp only [Ent.good, Bool.and_eq_true] at hg
  obtain ⟨⟨⟨⟨⟨g1, g2⟩, g3⟩, g4⟩, g5⟩, g6⟩ := hg
  have fs := scopeB_ok g2
  have dv : e.d.dvs S.K = [] := by unfold He.DefD.dvs; rw [List.isEmpty_iff.mp g5]; rfl
  rw [dv] at FD
  have B := FD.bindsN (fun kV doc pmv an cd ct us hl => plain_bind g1 (by rw [← fs.pre]; exact fs.nd.take) us hl)
  obtain ⟨oc, od, dV, kV, doc, pmv, an, cd, ct, osl, rfl, lk, hcd, _, _⟩ := FD.ex
  exact ⟨oc, od, dV, kV, doc, pmv, cd, ct, an, osl, lk, hcd, B, fs⟩
theorem step_not_bad {T : Nat → Option Fn} {Fs : Fns} {k : Nat} {ds : List D} {m : Mem} (h : stepF T Fs k ds m ≠ .bad) : ∃ f, T k = some f ∧ ds.length = f.np ∧ stepF T Fs k ds m = fin m.nx (denTop Fs m.nx f.dr f.body (startR f ds) m) := by
  unfold stepF at h ⊢
  cases q : T k with
  | none => rw [q] at h; exact absurd rfl h
  | some f =>
    rw [q] at h
    dsimp only at h ⊢
    cases c : Nat.beq ds.length f.np && Nat.ble f.np f.nl with
    | false => rw [c] at h; exact absurd rfl h
    | true =>
      rw [Bool.and_eq_true] at c
      exact ⟨f, rfl, Nat.eq_of_beq_eq_true c.1, rfl⟩
/-- one def, its callees told -/
theorem lvl_step (FX : Facts P S G es mg) (hg : ∀ e ∈ es, e.good = true) (hb : ∀ e ∈ es, e.body = e.src G) {Fs : Fns} {n : Nat} (hn : 5 ≤ n)
    (hF : ∀ k ds m, Fs.F k ds m ≠ .bad → ∃ fd ps, Binds S.K fd ps [] ∧ (∀ ds m, Fs.F k ds m ≠ .bad → ds.length = ps.length) ∧ ∀ base, TabsB S es base mg → FnG P w S.K mg base n (S.fa k) fd ps (spF S Fs.F k))
    (hL : ∀ k ds m, Fs.L k ds m ≠ .bad → ∃ fd ps, Binds S.K fd ps [] ∧ (∀ ds m, Fs.L k ds m ≠ .bad → ds.length = ps.length) ∧ ∀ base, TabsB S es base mg → FnG P w S.K mg base (n - 2) (S.fa k) fd ps (spF S Fs.L k))
    (k : Nat) (ds : List D) (m : Mem) (h : stepF (tabT es) Fs k ds m ≠ .bad) :
    ∃ fd ps, Binds S.K fd ps [] ∧ (∀ ds m, stepF (tabT es) Fs k ds m ≠ .bad → ds.length = ps.length) ∧ ∀ base, TabsB S es base mg → FnG P w S.K mg base (n + 1) (S.fa k) fd ps (spF S (stepF (tabT es) Fs) k) := by
  obtain ⟨f, hf, _, _⟩ := step_not_bad h
  obtain ⟨e, q, rfl⟩ := Option.map_eq_some_iff.mp (show (es[k]?).map Ent.fn = some f from hf)
  have hm := List.mem_of_getElem? q
  have ge := hg e hm
  obtain ⟨oc, od, dV, kV, doc, pmv, cd, ct, an, osl, lk, hcd, hB, fs⟩ := ent_fn FX hm ge
  simp only [Ent.good, Bool.and_eq_true] at ge
  obtain ⟨⟨⟨⟨⟨g1, g2⟩, g3⟩, g4⟩, g5⟩, g6⟩ := ge
  have hps := Nat.eq_of_beq_eq_true g3
  have hN := Nat.eq_of_beq_eq_true g4
  have hfa : S.fa k = He.fAd S.K e.d.at_ := by
    rw [FX.fa]
    unfold faOf
    rw [q]
  refine ⟨_, e.ps, hB, fun ds m hn' => ?_, fun base TBs => ?_⟩
  · obtain ⟨f', hf', hl', _⟩ := step_not_bad hn'
    rw [hf] at hf'
    cases hf'
    rw [hl', hps]
    rfl
  rw [hfa]
  refine fng_of lk hcd fs fun A out t H vs Q E hr hgu ⟨ι, m1, ds1, rv, M, p⟩ => ?_
  have mets : ∀ x hs d, (e.glo G).m x = some (hs, d) → 5 ≤ n ∧ MetOk S (e.glo G) (cxOf (L2.CX P w) P w S.K mg base e.N e.d.qual e.d.scope (He.fAd S.K e.d.at_) cd A out t H E) x hs d := fun x hs d hx => by
    refine ⟨hn, ?_⟩
    unfold Ent.glo at hx ⊢
    cases hl : e.lam with
    | false => rw [hl] at hx; cases hx
    | true =>
      rw [hl] at hx
      dsimp only
      obtain ⟨e2, h2, rfl, hq2, hmg, hkp, a, ha, hna, hsh⟩ := FX.mt x hs d hx
      obtain ⟨oc2, od2, dV2, kV2, doc2, pmv2, cd2, ct2, an2, osl2, lk2, hcd2, hB2, fs2⟩ := ent_fn FX h2 (hg e2 h2)
      obtain ⟨c, rfl⟩ := He.codeIn_ref hcd
      have hco : (He.cT S.K e.d.at_).1 = c := He.codeOf_eq lk rfl
      have TB := TBs e hm hl
      rw [hco] at TB
      have nm0 : e2.N[0]? = some a := by
        have e1 := fs2.pre
        rw [ha] at e1
        cases hN2 : e2.N with
        | nil => rw [hN2] at e1; cases e1
        | cons y r =>
          rw [hN2] at e1
          have e1 : y :: r.take 0 = [a] := e1
          injection e1 with h1 _
          rw [h1] <;> rfl
      have hv : visB e2.d.scope a = true := by
        unfold visB
        rcases fs2.par a (by rw [ha]; exact List.mem_singleton_self a) with z | z <;> rw [z]
      rw [ha] at hB2 fs2
      rw [hq2] at lk2 hcd2 hB2
      exact ⟨⟨_, c, _, a, e2.N, e2.d.params, e2.d.body, e2.d.scope, dV2, kV2, doc2, pmv2, cd2, ct2, oc2, an2, od2, osl2, hmg, hkp, lk2, hcd2, hB2, fs2, nm0, hv, hna, (metShape_eq (G := { G with l := true }) (G' := G) rfl rfl rfl _ _ _ _).trans hsh, TB, rfl, (FX.lt e hm hl).1, (FX.lt e hm hl).2⟩⟩
  have eg : (e.glo G).g = G.g ∧ (e.glo G).b = G.b ∧ (e.glo G).x = G.x ∧ (e.glo G).xn = G.xn ∧ (e.glo G).xf = G.xf ∧ (e.glo G).k = G.k := by
    unfold Ent.glo
    cases e.lam <;> exact ⟨rfl, rfl, rfl, rfl, rfl, rfl⟩
  obtain ⟨e1, e2, e3, e4, e5, e6⟩ := eg
  have lams : (e.glo G).l = true → LamOk S (cxOf (L2.CX P w) P w S.K mg base e.N e.d.qual e.d.scope (He.fAd S.K e.d.at_) cd A out t H E) := fun hx => by
    unfold Ent.glo at hx
    cases hl : e.lam with
    | false => rw [hl] at hx; cases hx
    | true =>
      obtain ⟨c, rfl⟩ := He.codeIn_ref hcd
      have hco : (He.cT S.K e.d.at_).1 = c := He.codeOf_eq lk rfl
      have TB := TBs e hm hl
      rw [hco] at TB
      exact ⟨⟨c, _, TB, rfl, (FX.lt e hm hl).1, (FX.lt e hm hl).2⟩⟩
  have X0 : BC S (e.glo G) Fs n (cxOf (L2.CX P w) P w S.K mg base e.N e.d.qual e.d.scope (He.fAd S.K e.d.at_) cd A out t H E) fun cls d _ H => E cls d H :=
    ⟨⟨by omega, fs.nd, rfl, hr, hgu, rfl, takes_of rfl rfl rfl rfl, by rw [e1]; exact FX.gl, by rw [e2]; exact FX.bl, FX.kp, fun k ds m hn => (hF k ds m hn).elim fun fd z => z.elim fun ps z => ⟨⟨fd, ps, z.1, z.2.1, z.2.2 base TBs⟩⟩,
      fun k ds m hn => (hL k ds m hn).elim fun fd z => z.elim fun ps z => ⟨⟨fd, ps, z.1, z.2.1, z.2.2 base TBs⟩⟩, FX.sup, by rw [e5]; exact FX.xf, by rw [e3, e4]; exact FX.xk, by rw [e4]; exact FX.xe, mets, by rw [e6]; exact FX.kl, lams, fun _ => hn⟩, passes_of rfl, fun _ => rfl, fs.kind⟩
  refine ⟨_, trTop_ok (fun st s hs => trS_ok X0 60 60 hs) e.dr e.d.body, ι, m1, H, ι, startR e.fn ds1, m1, Step.refl M, start_rep rv hN, ?_⟩
  have nb : stepF (tabT es) Fs k ds1 m1 ≠ .bad := not_bad p
  obtain ⟨f', hf', _, he⟩ := step_not_bad nb
  rw [hf] at hf'
  cases hf'
  rw [he] at p
  have hbd : e.body = trSs (trS (e.glo G) e.N 60 60 e.d.scope) e.d.body := hb e hm
  show PostS S _ ι m1 H _ (denTop Fs m1.nx e.dr (trSs (trS (e.glo G) e.N 60 60 e.d.scope) e.d.body) (startR e.fn ds1) m1)
  rw [← hbd]
  exact fin_post p
theorem lvl (FX : Facts P S G es mg) (hg : ∀ e ∈ es, e.good = true) (hb : ∀ e ∈ es, e.body = e.src G) : ∀ n, Lvl S es mg P w n
  | 0 => fun k ds m h => absurd rfl h
  | 1 => fun k ds m h => lvl_step FX hg hb (n := 8) (by decide) (fun k ds m h => absurd rfl h) (fun k ds m h => absurd rfl h) k ds m h
  | 2 => fun k ds m h => lvl_step FX hg hb (n := 9) (by decide) (fun k ds m h => lvl FX hg hb 1 k ds m h) (fun k ds m h => absurd rfl h) k ds m h
  | n + 3 => fun k ds m h => lvl_step FX hg hb (n := n + 10) (by omega) (fun k ds m h => lvl FX hg hb (n + 2) k ds m h) (fun k ds m h => lvl FX hg hb n k ds m h) k ds m h
end
end Ev

set_option Elab.async false
set_option linter.all false
set_option maxRecDepth 100000
set_option maxHeartbeats 4000000
namespace Ev
open PySem PySem.Spec PyProof.Rows L2

/-! ## the end: the law's own call -/
section
variable {P : Program} {w : World} {K : PySem.W.Frag} {mg mb : Str → Option Value}
/-- what may be told of at the start: the script, empty tables -/
def Only2 (T : List Addr) (H : Hp) : Prop := ∀ b, H b = none ∨ (b ∈ T ∧ H b = some (.tbl #[])) ∨ ∃ o xs, H b = some (.frz o (.lst xs))
theorem law_go {k : Nat} {f a : Addr} {fd : FuncData} {x : Str} {sp : Sp} {t : Shared} {us : List Value} {ns : List Int} {cs : List (Addr × Addr)}
    (inK : K.In t.heap) (hg : t.heap.Ns mainGlobals mg) (hb : t.heap.Ns builtinsNs mb) (hbb : ∀ y : Str, y ≠ "__name__" → mb y = bootBuiltins y) (nol : t.heap.NoLimit) (gs : t.gens = #[])
    (hT : ∀ p ∈ cs, t.heap.get? p.2 = some { cls := .none, data := .fields #[] }) (nT : ∀ p ∈ cs, K.lookup p.2 = none) (hC : ∀ p ∈ cs, PySem.W.CodeHd t.heap p.1 p.2)
    (hbm : ∃ (bm : Addr) (ob : Obj), mg "__builtins__" = some (.ref bm) ∧ bm ≠ builtinsNs ∧ t.heap.get? bm = some ob ∧ ob.cls = .type "module" ∧ ob.dict = some builtinsNs ∧ ob.data = .plain)
    (hobj : t.heap.get? a = some { cls := .type "list", data := .seq us.toArray }) (hi : IntsAre us ns) (hz : ns.length ≤ sizeLine) (hr : Room k callerA)
    (FF : ∀ base : Heap, K.In base → base.Ns mainGlobals mg → (∀ p ∈ cs, LamX.TabB base mg p.1 p.2) → FnG P w K mg base k f fd [x] sp) (hbi : Binds K fd [x] [])
    (hsp : ∀ H : Hp, Only2 (cs.map (·.2)) H → (∀ p ∈ cs, H p.2 = some (.tbl #[])) → SqL K H a (ns.map V.int) → sp [.ref a] H (fun v _ => v = .bl true) fun _ _ _ => False) :
    codeAny (model P w) callerA (.call (.ref f) ⟨[.ref a], []⟩) (fun r t' => r = .ok (.ret (.bool true)) ∧ OldK t.heap t'.heap ∧ t'.os = t.os ∧ AllBare t'.gens) t := by
  have rv := vals_ints hi
  have lu := hi.length
  have tabs : ∀ {b : Addr}, b ∈ cs.map (·.2) → t.heap.get? b = some { cls := .none, data := .fields #[] } := fun {b} h => by
    obtain ⟨p, hp, rfl⟩ := List.mem_map.mp h
    exact hT p hp
  have inT : ∀ {p}, p ∈ cs → p.2 ∈ cs.map (·.2) := fun {p} hp => List.mem_map.mpr ⟨p, hp, rfl⟩
  have notT : a ∉ cs.map (·.2) := fun h => by
    have e := tabs h
    rw [hobj] at e
    have e : Data.seq us.toArray _ = Data.fields #[] := congrArg Obj.data (Option.some.inj e)
    cases e
  have main : ∀ H : Hp, Only2 (cs.map (·.2)) H → (∀ p ∈ cs, H p.2 = some (.tbl #[])) → SqL K H a (ns.map V.int) → HOk P w H t.heap → (∀ b, H b ≠ none → b = a ∨ b ∈ cs.map (·.2)) → (H a ≠ none → K.lookup a = none) →
      codeAny (model P w) callerA (.call (.ref f) ⟨[.ref a], []⟩) (fun r t' => r = .ok (.ret (.bool true)) ∧ OldK t.heap t'.heap ∧ t'.os = t.os ∧ AllBare t'.gens) t := by
    intro H only hH sq ok one notK
    have keepB : ∀ {b : Addr} {o : Obj}, t.heap.get? b = some o → H b = none → (hidT t.heap H).get? b = some o := fun e h => hidT_get e h
    have other : ∀ {b : Addr} {o : Obj}, t.heap.get? b = some o → (∀ vs n, o.data ≠ .seq vs n) → o.data ≠ .fields #[] → H b = none := by
      intro b o e h1 h2
      refine Classical.byContradiction fun h => ?_
      rcases one b h with rfl | h
      · rw [hobj] at e
        cases e
        exact h1 _ _ rfl
      · rw [tabs h] at e
        cases e
        exact h2 rfl
    have dicts : ∀ {b : Addr} {o : Obj} {es : Array DictEntry} {ep : Nat}, t.heap.get? b = some o → o.data = .dict es ep → H b = none := fun e d => other e (fun _ _ z => by rw [d] at z; cases z) fun z => by rw [d] at z; cases z
    have names : ∀ {b : Addr} {m : Str → Option Value}, t.heap.Ns b m → (hidT t.heap H).Ns b m := fun ⟨o, es, ep, e, d, r⟩ => ⟨o, es, ep, keepB e (dicts e d), d, r⟩
    have inB : K.In (hidT t.heap H) := by
      intro b o e
      refine keepB (inK b o e) (Classical.byContradiction fun h => ?_)
      rcases one b h with rfl | h2
      · rw [notK h] at e
        cases e
      · obtain ⟨p, hp, rfl⟩ := List.mem_map.mp h2
        rw [nT p hp] at e
        cases e
    have md : Mod K mg (hidT t.heap H) := ⟨inB, names hg, ⟨mb, names hb, hbb⟩, nol.elim fun mc h => ⟨mc, names h.1, h.2⟩⟩
    have TB : ∀ p ∈ cs, LamX.TabB (hidT t.heap H) mg p.1 p.2 := fun p hp => by
      have e0 := hT p hp
      refine ⟨?_, ?_, fun z => ?_⟩
      · obtain ⟨o, u2, file, tf, flags, tg, inF, text, tt, e1, r1, r2, r3, r4⟩ := hC p hp
        refine ⟨o, u2, file, tf, flags, tg, inF, text, tt, keepB e1 (other e1 (fun _ _ z => ?_) fun z => ?_), r1, r2, r3, r4⟩
        · rw [r2] at z; cases z
        · rw [r2] at z
          cases z
          simp at r3
      · obtain ⟨bm, ob, b1, b2, b3, b4, b5, b6⟩ := hbm
        refine ⟨bm, ob, b1, b2, fun q => ?_, fun q => ?_, keepB b3 (other b3 (fun _ _ z => ?_) fun z => ?_), b4, b5, b6⟩
        · obtain ⟨o, es, ep, e, hd, _⟩ := hg
          rw [q, e] at b3
          cases b3
          rw [hd] at b6
          cases b6
        · rw [q, e0] at b3
          cases b3
          cases b6
        · rw [b6] at z; cases z
        · rw [b6] at z; cases z
      · obtain ⟨o, es, ep, e, hd, _⟩ := hg
        rw [z, e0] at e
        cases e
        cases hd
    have e0 : Env0 P w K mg (hidT t.heap H) callerA [] t H :=
      ⟨rfl, md, fun b o e => of_hidT e, Nat.le_of_eq (hidT_size _ _), trivial, fun b z => (nomatch (show b ∈ ([] : List Addr) from z)), ok, .of_eq gs⟩
    refine codeAny_mono ((FF _ inB (names hg) TB).run callerA [] t H ⟨[.ref a], []⟩ [.ref a] [.ref a] _ _ hr rfl e0 (hbi t [.ref a] inK rfl) (.cons rfl .nil) rfl (hsp H only hH sq)) fun r t' h => ?_
    match r, h with
    | .error e, h =>
      obtain ⟨_, _, _, _, _, _, _, _, _, _, _, _, z⟩ := h
      exact False.elim z
    | .ok (.ret u), h =>
      obtain ⟨v, H', os, bare, un, ok', r', q⟩ := h
      have q : v = .bl true := q
      subst q
      have r' : u = Value.bool true := r'
      subst r'
      have grown : ∀ p ∈ cs, ∃ more : Array Value, t'.heap.get? p.2 = some { cls := .none, data := .fields more } := fun p hp => by
        obtain ⟨more, z⟩ := un.tbls p.2 #[] (hH p hp)
        exact ⟨_, ok' p.2 _ z⟩
      have stays : ∀ b o, b ∉ cs.map (·.2) → t.heap.get? b = some o → t'.heap.get? b = some o := fun b o nb e => by
        rcases only b with h | h | ⟨ob, xs, z⟩
        · exact un.keep b o e h (fun z => (nomatch (show b ∈ ([] : List Addr) from z))) (by simp)
        · exact absurd h.1 nb
        · have e1 := (ok b _ z).1
          have e2 := (ok' b _ (un.frzs b ob _ z)).1
          rw [e] at e1
          cases e1
          exact e2
      refine ⟨rfl, ⟨fun b o e => ?_, fun b o e => ?_⟩, os, bare⟩ <;> by_cases hbT : b ∈ cs.map (·.2)
      · obtain ⟨p, hp, rfl⟩ := List.mem_map.mp hbT
        obtain ⟨more, hm⟩ := grown p hp
        rw [hT p hp] at e
        cases e
        exact .inr (.inl ⟨((hC p hp).tab (hT p hp)).isCodeTable, rfl, #[], more, rfl, by rw [Array.empty_append]; exact hm⟩)
      · exact .inl (stays b o hbT e)
      · obtain ⟨p, hp, rfl⟩ := List.mem_map.mp hbT
        obtain ⟨more, hm⟩ := grown p hp
        exact ⟨_, hm⟩
      · exact ⟨o, stays b o hbT e⟩
    | .ok .next, h => exact False.elim h
    | .ok .brk, h => exact False.elim h
    | .ok .cont, h => exact False.elim h
  let T : Hp := fun b => if b ∈ cs.map (·.2) then some (.tbl #[]) else none
  have Tt : ∀ {b}, b ∈ cs.map (·.2) → T b = some (.tbl #[]) := fun h => if_pos h
  have Tn : ∀ {b}, b ∉ cs.map (·.2) → T b = none := fun h => if_neg h
  cases hk : K.lookup a with
  | some o =>
    have e := inK a o hk
    rw [hobj] at e
    cases e
    refine main T (fun b => ?_) (fun p hp => Tt (inT hp)) (.inr ⟨_, us.toArray, _, hk, rfl, rfl, rfl, by rw [List.size_toArray, lu]; exact hz, by simpa using rv⟩) (fun b u z => ?_) (fun b z => ?_) fun z => absurd (Tn notT) z
    · by_cases h : b ∈ cs.map (·.2)
      · exact .inr (.inl ⟨h, Tt h⟩)
      · exact .inl (Tn h)
    · by_cases h : b ∈ cs.map (·.2)
      · rw [Tt h] at z
        cases z
        exact tabs h
      · rw [Tn h] at z
        cases z
    · by_cases h : b ∈ cs.map (·.2)
      · exact .inr h
      · exact absurd (Tn h) z
  | none =>
    let T2 : Hp := upd T a (.frz { cls := .type "list", data := .seq us.toArray } (.lst (ns.map V.int)))
    have ne : ∀ {b}, b ∈ cs.map (·.2) → b ≠ a := fun h z => notT (z ▸ h)
    have at2 : ∀ {b}, b ≠ a → T2 b = T b := fun h => upd_ne h
    have ata : T2 a = some (.frz { cls := .type "list", data := .seq us.toArray } (.lst (ns.map V.int))) := upd_same
    refine main T2 (fun b => ?_) (fun p hp => (at2 (ne (inT hp))).trans (Tt (inT hp))) (.inl (.inr ⟨_, ata⟩)) (fun b u z => ?_) (fun b z => ?_) fun _ => hk
    · by_cases h : b = a
      · rw [h]; exact .inr (.inr ⟨_, _, ata⟩)
      · rw [at2 h]
        by_cases h : b ∈ cs.map (·.2)
        · exact .inr (.inl ⟨h, Tt h⟩)
        · exact .inl (Tn h)
    · by_cases h : b = a
      · subst h
        rw [ata] at z
        cases z
        exact ⟨hobj, by rw [List.length_map]; exact hz, us, _, rv, hobj⟩
      · rw [at2 h] at z
        by_cases h : b ∈ cs.map (·.2)
        · rw [Tt h] at z
          cases z
          exact tabs h
        · rw [Tn h] at z
          cases z
    · by_cases h : b = a
      · exact .inl h
      · rw [at2 h] at z
        by_cases h : b ∈ cs.map (·.2)
        · exact .inr h
        · exact absurd (Tn h) z
end
/-! ## the facts, by one check of the heap's part -/
/-- a datum of the module -/
def repB (K : PySem.W.Frag) (es : List Ent) : Nat → D → Value → Bool
  | 0, _, _ => false
  | n + 1, d, u => match d, u with
    | .non, .none => true
    | .bl b, .bool c => b == c
    | .int i, .int j _ => decide (i = j)
    | .str x, .str y _ => decide (x = y)
    | .fn k, .ref a => decide (a = faOf K es k)
    | .tup ds, .ref a => (match K.lookup a with
      | some ⟨.type c, _, .seq its _, _⟩ => decide (c = "tuple") && decide (its.size ≤ sizeLine) && all2 (repB K es n) ds its.toList
      | _ => false)
    | _, _ => false
where all2 (f : D → Value → Bool) : List D → List Value → Bool
  | [], [] => true
  | d :: ds, u :: us => f d u && all2 f ds us
  | _, _ => false
theorem all2_ok {S : Sta} {f : D → Value → Bool} (hf : ∀ d u, f d u = true → ∃ v, RelV v u ∧ ∀ ι nx H, RepV S ι nx H d v) : ∀ {ds : List D} {us : List Value}, repB.all2 f ds us = true → ∃ vs, Vals vs us ∧ ∀ ι nx H, RepVs S ι nx H ds vs
  | [], [], _ => ⟨[], .nil, fun _ _ _ => .nil⟩
  | [], _ :: _, h => by cases h
  | _ :: _, [], h => by cases h
  | d :: ds, u :: us, h => by
    have h : (f d u && repB.all2 f ds us) = true := h
    rw [Bool.and_eq_true] at h
    obtain ⟨v, r, k⟩ := hf d u h.1
    obtain ⟨vs, rs, ks⟩ := all2_ok hf h.2
    exact ⟨v :: vs, .cons r rs, fun ι nx H => .cons (k ι nx H) (ks ι nx H)⟩
theorem repB_ok {S : Sta} {es : List Ent} (hfa : S.fa = faOf S.K es) : ∀ n {d : D} {u : Value}, repB S.K es n d u = true → ∃ v, RelV v u ∧ ∀ ι nx H, RepV S ι nx H d v
  | 0, _, _, h => by cases h
  | n + 1, d, u, h => by
    unfold repB at h
    split at h
    · exact ⟨.non, rfl, fun _ _ _ => .non⟩
    · rename_i b c
      have e : b = c := eq_of_beq h
      subst e
      exact ⟨.bl _, rfl, fun _ _ _ => .bl _⟩
    · rename_i i j t
      have e := of_decide_eq_true h
      subst e
      exact ⟨.int _, ⟨t, rfl⟩, fun _ _ _ => .int _⟩
    · rename_i x y t
      have e := of_decide_eq_true h
      subst e
      exact ⟨.str _, ⟨t, rfl⟩, fun _ _ _ => .str _⟩
    · rename_i k a
      have e := of_decide_eq_true h
      refine ⟨.ref a, rfl, fun _ _ _ => ?_⟩
      rw [e, ← hfa]
      exact .fn k
    · rename_i ds a
      cases q : S.K.lookup a with
      | none => rw [q] at h; cases h
      | some o =>
        rw [q] at h
        split at h
        · rename_i c x its y z e
          cases e
          simp only [Bool.and_eq_true, decide_eq_true_eq] at h
          obtain ⟨⟨rfl, hz⟩, h⟩ := h
          obtain ⟨vs, rv, k⟩ := all2_ok (S := S) (fun d u h => repB_ok hfa n h) h
          exact ⟨.ref a, rfl, fun ι nx H => .tup (.inr ⟨_, its, _, q, rfl, rfl, hz, rv⟩) (k ι nx H)⟩
        · cases h
    · cases h
/-- the module's names: a datum each, and those that it does not hold -/
def gloB (K : PySem.W.Frag) (es : List Ent) (gs : List (Str × D)) (bs : List Str) : Bool :=
  (gs.all fun p => match PySem.W.nsIn K mainGlobals p.1 with
    | some (some u) => repB K es 8 p.2 u
    | _ => false) &&
  bs.all fun x => match PySem.W.nsIn K mainGlobals x with
    | some none => true
    | _ => false
end Ev

set_option Elab.async false
set_option linter.all false
set_option maxRecDepth 100000
set_option maxHeartbeats 1000000
namespace Ev
open PySem PySem.Spec PyProof.Rows L2

/-! ## own exceptions, by a check of the heap's part -/
structure XE where
  name : Str
  own : Bool
  fld : Str
def xLook : List XE → Nat → Str → Option (Nat × Bool)
  | [], _, _ => none
  | e :: r, n, x => match decide (e.name = x) with | true => some (n, e.own) | false => xLook r (n + 1) x
theorem xLook_ok {x : Str} {b : Bool} : ∀ {l : List XE} {n k : Nat}, xLook l n x = some (k, b) → ∃ j e, k = n + j ∧ l[j]? = some e ∧ e.name = x ∧ e.own = b
  | [], _, _, h => by cases h
  | e :: r, n, k, h => by
    unfold xLook at h
    by_cases he : e.name = x
    · rw [decide_eq_true he] at h
      cases h
      exact ⟨0, e, rfl, rfl, he, rfl⟩
    · rw [decide_eq_false he] at h
      obtain ⟨j, e', h1, h2, h3⟩ := xLook_ok h
      exact ⟨j + 1, e', by omega, h2, h3⟩
structure Kind where
  B : String
  newId : String
  initId : String
  bm : List Value
structure KindOk (k : Kind) : Prop where
  FB : ExcBaseFacts k.B k.newId k.initId k.bm
  SF : StoreFacts k.B k.bm "object.__setattr__" "object"
  KF : PySem.W.KxsFacts k.B k.initId
def kinds : List Kind := [⟨"IndexError", "IndexError.__new__", "IndexError.__init__", [.type "IndexError", .type "LookupError", .type "Exception", .type "BaseException", .type "object"]⟩,
  ⟨"OverflowError", "OverflowError.__new__", "OverflowError.__init__", [.type "OverflowError", .type "ArithmeticError", .type "Exception", .type "BaseException", .type "object"]⟩,
  ⟨"ArithmeticError", "ArithmeticError.__new__", "ArithmeticError.__init__", [.type "ArithmeticError", .type "Exception", .type "BaseException", .type "object"]⟩,
  ⟨"LookupError", "LookupError.__new__", "LookupError.__init__", [.type "LookupError", .type "Exception", .type "BaseException", .type "object"]⟩]
theorem kinds_ok : ∀ k ∈ kinds, KindOk k := by
  intro k hk
  simp only [kinds, List.mem_cons, List.not_mem_nil, or_false] at hk
  rcases hk with rfl | rfl | rfl | rfl
  · exact ⟨F.excBase_IndexError, F.store_IndexError, PySem.W.kxs_IndexError⟩
  · exact ⟨F.excBase_OverflowError, F.store_OverflowError, PySem.W.kxs_OverflowError⟩
  · exact ⟨F.excBase_ArithmeticError, F.store_ArithmeticError, PySem.W.kxs_ArithmeticError⟩
  · exact ⟨F.excBase_LookupError, F.store_LookupError, PySem.W.kxs_LookupError⟩
/-- the body: super().__init__(p); self.fld = p -/
def bodyB (slf par fld : Str) : List Stmt → Bool
  | [.Expr (.Call (.Attribute (.Call (.Name sp _) [] [] _) ini p3) [.Name q1 _] [] p5) _, .Assign [.Attribute (.Name q2 _) f _] (.Name q3 _) _] =>
    decide (sp = "super") && decide (ini = "__init__") && decide (q1 = par) && decide (q2 = slf) && decide (f = fld) && decide (q3 = par) && (p3.endLine == p5.line)
  | _ => false
theorem bodyB_ok {slf par fld : Str} {b : List Stmt} (h : bodyB slf par fld b = true) : ∃ (p1 p2 p3 p4 p5 p6 p7 p8 p9 p10 : Pos),
    b = [.Expr (.Call (.Attribute (.Call (.Name "super" p1) [] [] p2) "__init__" p3) [.Name par p4] [] p5) p6, .Assign [.Attribute (.Name slf p7) fld p8] (.Name par p9) p10] ∧ (p3.endLine == p5.line) = true := by
  unfold bodyB at h
  split at h
  · simp only [Bool.and_eq_true, decide_eq_true_eq] at h
    obtain ⟨⟨⟨⟨⟨⟨rfl, rfl⟩, rfl⟩, rfl⟩, rfl⟩, rfl⟩, hl⟩ := h
    exact ⟨_, _, _, _, _, _, _, _, _, _, rfl, hl⟩
  · cases h
def fnB (P : Program) (K : PySem.W.Frag) (C fI : Addr) (fld : Str) : Bool := match K.lookup fI with
  | some ⟨_, _, .func ⟨_, qual, ⟨[], [a1, a2], none, [], [], none, []⟩, .stmts body, scope, gl, [(cn, cc)], .none, _, _, _, _, .ref cda, _, bl⟩, _⟩ =>
    decide (gl = mainGlobals) && decide (bl = builtinsNs) && decide (cn = "__class__") && PySem.W.codeIn K (.ref cda) qual &&
    (match K.lookup cda with
      | some ⟨_, _, .fields vs, _⟩ => (match (vs[2]? : Option Value) with | some (.str file _) => ((P.main.file : Str) == file) | _ => false)
      | _ => false) &&
    (match K.lookup cc with
      | some ⟨_, _, .cell (some (.ref D)), _⟩ => decide (D = C)
      | _ => false) &&
    bodyB a1.arg a2.arg fld body && !decide (a1.arg = a2.arg) && !(a1.arg == ("__debug__" : Str)) && !(a2.arg == ("__debug__" : Str)) &&
    decide (scope.names.lookup a1.arg = some .local) && decide (scope.names.lookup a2.arg = some .local) && decide (scope.names.lookup ("super" : Str) = some .globalImplicit) && decide (scope.names.lookup ("__class__" : Str) = some .free) &&
    decide (scope.kind = .function) && !scope.isCoroutine && !scope.isGenerator && scope.names.all fun y => decide (y.2 ≠ .cell)
  | _ => false
def fIof (K : PySem.W.Frag) (C : Addr) : Addr := match PySem.W.findIn K (.ref C) "__init__" with
  | some (some (.ref a)) => a
  | _ => 0
def ownK (P : Program) (K : PySem.W.Frag) (C : Addr) (fld : Str) (k : Kind) : Bool := PySem.W.excInitIn K C k.bm k.newId && (match PySem.W.clsIn K C with | some cd => cd.hasDict && PySem.W.excTail k.bm cd.mro | none => false) &&
  decide (PySem.W.ks_superIn K C C "__init__" = some (some (.builtin k.initId))) && decide (PySem.W.subIn K (.ref C) (.type k.B) = some true) && decide (PySem.W.nsIn K cStatics "thirdparty.any" = some none) &&
  decide (PySem.W.findIn K (.ref C) "__setattr__" = some (some (.builtin "object.__setattr__"))) && decide (PySem.W.findIn K (.ref C) fld = some none) && decide (PySem.W.subIn K (.ref C) (.type "BaseException") = some true) &&
  decide (PySem.W.typeIn K (.ref C) = some (.type "type")) && PySem.W.keepIn K (.ref C) && decide (PySem.W.mroIn K C (.ref C) = some true) && decide (PySem.W.findIn K (.ref C) "__init__" = some (some (.ref (fIof K C)))) &&
  decide (PySem.W.typeIn K (.ref (fIof K C)) = some (.type "function")) && fnB P K C (fIof K C) fld && !(P.main.scope.names.lookup ("super" : Str)).isSome
theorem ownK_ok {P : Program} {K : PySem.W.Frag} {C : Addr} {fld : Str} {k : Kind} (hk : KindOk k) (h : ownK P K C fld k = true) : ExM.OwnEx P K C fld k.B k.newId k.initId k.bm (fIof K C) := by
  simp only [ownK, Bool.and_eq_true, decide_eq_true_eq, Bool.not_eq_true'] at h
  obtain ⟨⟨⟨⟨⟨⟨⟨⟨⟨⟨⟨⟨⟨⟨h1, h2⟩, h3⟩, h4⟩, h5⟩, h6⟩, h7⟩, h8⟩, h9⟩, h10⟩, h11⟩, h12⟩, h13⟩, h14⟩, h15⟩ := h
  refine ⟨hk.FB, hk.SF, hk.KF, h1, ?_, h3, h4, h5, h6, h7, h8, h9, h10, h11, h12, h13, ?_, h15⟩
  · cases e : PySem.W.clsIn K C with
    | none => rw [e] at h2; cases h2
    | some cd =>
      rw [e] at h2
      rw [Bool.and_eq_true] at h2
      exact ⟨cd, rfl, h2.1, h2.2⟩
  · unfold fnB at h14
    split at h14
    · rename_i oc od name qual a1 a2 body scope gl cn cc kV doc pm an cda ct bl osl hf
      simp only [Bool.and_eq_true, decide_eq_true_eq, Bool.not_eq_true', decide_eq_false_iff_not, List.all_eq_true] at h14
      obtain ⟨⟨⟨⟨⟨⟨⟨⟨⟨⟨⟨⟨⟨⟨⟨⟨⟨f1, f2⟩, f3⟩, f4⟩, f5⟩, f6⟩, f7⟩, f8⟩, f9⟩, f10⟩, f11⟩, f12⟩, f13⟩, f14⟩, f15⟩, f16⟩, f17⟩, f18⟩ := h14
      subst f1 f2 f3
      split at f5
      · rename_i ccl cdd vs ccs hcode
        split at f5
        · rename_i file tf hvs
          split at f6
          · rename_i cl cld D csl hcell
            obtain rfl := of_decide_eq_true f6
            exact ⟨oc, ccl, cl, od, cdd, cld, an, osl, ccs, csl, name, qual, a1, a2, body, scope, kV, doc, pm, ct, cda, cc, vs, file, tf, hf, f4, hcode, hvs, f5, hcell, bodyB_ok f7, f8, f9, f10, f11, f12, f13, f14, f15, f16, f17, f18⟩
          · cases f6
        · cases f5
      · cases f5
    · cases h14
def xB (P : Program) (K : PySem.W.Frag) (e : XE) : Bool := decide (PySem.W.nsIn K mainGlobals e.name = some (some (.ref (He.ga K e.name)))) && (match e.own with
  | true => (kinds.any fun k => ownK P K (He.ga K e.name) e.fld k) && xfB K (He.ga K e.name)
  | false => (He.Fa.exc e.name).ok K)
/-! ## the module's names -/
def headP (e : Ent) : Option Str := match e.ps with
  | [a] => some a
  | _ => none
/-- a class with slots: its name, its slots by their places, the def of __init__, its methods -/
structure CE where
  name : Str
  slots : List Str
  ini : Nat
  mth : List (Str × Nat)
  prp : List (Str × Nat)
structure MsC where
  m : List (Str × Nat)
  c : List CE
def cLook : List CE → Nat → Str → Option (Nat × Nat × Nat)
  | [], _, _ => none
  | c :: r, n, x => match decide (c.name = x) with | true => some (n, c.slots.length, c.ini) | false => cLook r (n + 1) x
theorem cLook_ok {x : Str} {k np j : Nat} : ∀ {l : List CE} {n : Nat}, cLook l n x = some (k, np, j) → ∃ i c, k = n + i ∧ l[i]? = some c ∧ c.name = x ∧ c.ini = j
  | [], _, h => by cases h
  | c :: r, n, h => by
    unfold cLook at h
    by_cases he : c.name = x
    · rw [decide_eq_true he] at h
      cases h
      exact ⟨0, c, rfl, rfl, he, rfl⟩
    · rw [decide_eq_false he] at h
      obtain ⟨i, c', h1, h2, h3⟩ := cLook_ok h
      exact ⟨i + 1, c', by omega, h2, h3⟩
def atSlot (f : Str) : List CE → Nat → List (Nat × Nat)
  | [], _ => []
  | c :: r, n => match ixOf f c.slots 0 with | some i => (n, i) :: atSlot f r (n + 1) | none => atSlot f r (n + 1)
theorem atSlot_ok {f : Str} {q : Nat × Nat} : ∀ {l : List CE} {n : Nat}, q ∈ atSlot f l n → ∃ i c, q.1 = n + i ∧ l[i]? = some c ∧ c.slots[q.2]? = some f
  | [], _, h => by cases h
  | c :: r, n, h => by
    have go : q ∈ atSlot f r (n + 1) → ∃ i c', q.1 = n + i ∧ (c :: r)[i]? = some c' ∧ c'.slots[q.2]? = some f := fun h => by
      obtain ⟨i, c', h1, h2, h3⟩ := atSlot_ok h
      exact ⟨i + 1, c', by omega, h2, h3⟩
    unfold atSlot at h
    split at h
    · rename_i i hi
      rcases List.mem_cons.mp h with rfl | h
      · exact ⟨0, c, rfl, rfl, ixOf0 hi⟩
      · exact go h
    · exact go h
def atMeth (m : Str) : List CE → Nat → List (Nat × Nat)
  | [], _ => []
  | c :: r, n => match c.mth.lookup m with | some j => (n, j) :: atMeth m r (n + 1) | none => atMeth m r (n + 1)
theorem atMeth_ok {m : Str} {q : Nat × Nat} : ∀ {l : List CE} {n : Nat}, q ∈ atMeth m l n → ∃ i c, q.1 = n + i ∧ l[i]? = some c ∧ c.mth.lookup m = some q.2
  | [], _, h => by cases h
  | c :: r, n, h => by
    have go : q ∈ atMeth m r (n + 1) → ∃ i c', q.1 = n + i ∧ (c :: r)[i]? = some c' ∧ c'.mth.lookup m = some q.2 := fun h => by
      obtain ⟨i, c', h1, h2, h3⟩ := atMeth_ok h
      exact ⟨i + 1, c', by omega, h2, h3⟩
    unfold atMeth at h
    split at h
    · rename_i j hj
      rcases List.mem_cons.mp h with rfl | h
      · exact ⟨0, c, rfl, rfl, hj⟩
      · exact go h
    · exact go h
def atProp (m : Str) : List CE → Nat → List (Nat × Nat)
  | [], _ => []
  | c :: r, n => match c.prp.lookup m with | some j => (n, j) :: atProp m r (n + 1) | none => atProp m r (n + 1)
theorem atProp_ok {m : Str} {q : Nat × Nat} : ∀ {l : List CE} {n : Nat}, q ∈ atProp m l n → ∃ i c, q.1 = n + i ∧ l[i]? = some c ∧ c.prp.lookup m = some q.2
  | [], _, h => by cases h
  | c :: r, n, h => by
    have go : q ∈ atProp m r (n + 1) → ∃ i c', q.1 = n + i ∧ (c :: r)[i]? = some c' ∧ c'.prp.lookup m = some q.2 := fun h => by
      obtain ⟨i, c', h1, h2, h3⟩ := atProp_ok h
      exact ⟨i + 1, c', by omega, h2, h3⟩
    unfold atProp at h
    split at h
    · rename_i j hj
      rcases List.mem_cons.mp h with rfl | h
      · exact ⟨0, c, rfl, rfl, hj⟩
      · exact go h
    · exact go h
def slotB (K : PySem.W.Frag) (C : Addr) (f : Str) (i : Nat) : Bool := match PySem.W.findIn K (.ref C) f with
  | some (some (.ref p)) => decide (PySem.W.specialIn K (.ref p) "__get__" = some (some (.builtin "member_descriptor.__get__"))) && decide (PySem.W.takesIn K (.ref p) = some true) && decide (PySem.W.typeIn K (.ref p) = some (.type "member_descriptor")) && decide (PySem.W.slotIn K p C = some i) && Nat.blt i 1000
  | _ => false
theorem slotB_ok {K : PySem.W.Frag} {C : Addr} {f : Str} {i : Nat} (h : slotB K C f i = true) : ∃ p, SlX.Slot1 K C f p i := by
  unfold slotB at h
  split at h
  · rename_i p hp
    simp only [Bool.and_eq_true, decide_eq_true_eq] at h
    exact ⟨p, hp, h.1.1.1.1, h.1.1.1.2, h.1.1.2, h.1.2, Nat.le_of_ble_eq_true h.2⟩
  · cases h
def getFn (K : PySem.W.Frag) (C g : Addr) (i : Nat) : Bool := match K.lookup g with
  | some ⟨_, _, .func ⟨_, qual, ⟨[], [a], none, [], [], none, []⟩, .stmts [.Return (some (.Attribute (.Name x _) slot _)) _], scope, gl, [], .none, _, _, _, _, cda, _, bl⟩, _⟩ =>
    decide (gl = mainGlobals) && decide (bl = builtinsNs) && PySem.W.codeIn K cda qual && decide (x = a.arg) && scopeB [x] [x] scope && nodun x && visB scope x && slotB K C slot i
  | _ => false
theorem getFn_ok {K : PySem.W.Frag} {C g : Addr} {i : Nat} (h : getFn K C g i = true) : GetOk K C g i := by
  unfold getFn at h
  split at h
  · rename_i oc od name qual a x p1 slot p2 p3 scope gl kV doc pm an cda ct bl osl hf
    simp only [Bool.and_eq_true, decide_eq_true_eq] at h
    obtain ⟨⟨⟨⟨⟨⟨⟨h1, h2⟩, h3⟩, h4⟩, h5⟩, h6⟩, h7⟩, h8⟩ := h
    subst h1 h2
    obtain ⟨pp, hs⟩ := slotB_ok h8
    refine ⟨oc, od, .none, kV, doc, pm, cda, ct, an, osl, name, qual, x, slot, ⟨[], [a], none, [], [], none, []⟩, scope, p1, p2, p3, pp, hf, h3, ?_, scopeB_ok h5, h6, h7, hs⟩
    rw [h4]
    exact .all fun us hl => plain_bind0 (as := [a]) us hl (by simp)
  · cases h
def getB (K : PySem.W.Frag) (C : Addr) (f : Str) (i : Nat) : Bool := match PySem.W.findIn K (.ref C) f with
  | some (some (.ref p)) => decide (PySem.W.specialIn K (.ref p) "__get__" = some (some (.builtin "property.__get__"))) && decide (PySem.W.takesIn K (.ref p) = some true) && (match PySem.W.recIn K p "property" with
    | some (.ref g :: _) => getFn K C g i
    | _ => false)
  | _ => false
theorem getB_ok {K : PySem.W.Frag} {C : Addr} {f : Str} {i : Nat} (h : getB K C f i = true) : ∃ p g, L2.PropOf K C f p g ∧ GetOk K C g i := by
  unfold getB at h
  split at h
  · rename_i p hp
    simp only [Bool.and_eq_true, decide_eq_true_eq] at h
    obtain ⟨⟨h1, h2⟩, h3⟩ := h
    split at h3
    · rename_i g rest hr
      exact ⟨p, g, ⟨hp, h1, h2, ⟨rest, hr⟩⟩, getFn_ok h3⟩
    · cases h3
  · cases h
def sclsB (K : PySem.W.Frag) (C : Addr) : Bool := PySem.W.plainGet K C Str.empty && PySem.W.isClsIn K C && PySem.W.plainOver K C && decide (PySem.W.findIn K (.ref C) "__setattr__" = some (some (.builtin "object.__setattr__")))
theorem sclsB_ok {K : PySem.W.Frag} {C : Addr} (h : sclsB K C = true) : SlX.SCls K C := by
  simp only [sclsB, Bool.and_eq_true, decide_eq_true_eq] at h
  exact ⟨h.1.1.1, h.1.1.2, h.1.2, h.2⟩
def slotsB (K : PySem.W.Frag) (C : Addr) : List Str → Nat → Bool
  | [], _ => true
  | f :: r, i => slotB K C f i && slotsB K C r (i + 1)
theorem slotsB_ok {K : PySem.W.Frag} {C : Addr} {f : Str} : ∀ {l : List Str} {n i : Nat}, slotsB K C l n = true → l[i]? = some f → slotB K C f (n + i) = true
  | [], _, _, _, h => by simp at h
  | g :: r, n, 0, h, e => by
    unfold slotsB at h
    rw [Bool.and_eq_true] at h
    cases e
    exact h.1
  | g :: r, n, i + 1, h, e => by
    unfold slotsB at h
    rw [Bool.and_eq_true] at h
    have := slotsB_ok (i := i) h.2 e
    rw [show n + (i + 1) = n + 1 + i by omega]
    exact this
def classB (K : PySem.W.Frag) (es : List Ent) (c : CE) : Bool := decide (PySem.W.nsIn K mainGlobals c.name = some (some (.ref (He.ga K c.name)))) && PySem.W.makesIn K (He.ga K c.name) &&
  decide (PySem.W.findIn K (.ref (He.ga K c.name)) "__init__" = some (some (.ref (faOf K es c.ini)))) && PySem.W.isFn K (.ref (faOf K es c.ini)) && PySem.W.keepIn K (.ref (He.ga K c.name)) && sclsB K (He.ga K c.name) && slotsB K (He.ga K c.name) c.slots 0 &&
  (c.mth.all fun q => decide (PySem.W.findIn K (.ref (He.ga K c.name)) q.1 = some (some (.ref (faOf K es q.2)))) && PySem.W.isFn K (.ref (faOf K es q.2)) && PySem.W.keepIn K (.ref (faOf K es q.2))) && c.prp.all fun q => getB K (He.ga K c.name) q.1 q.2
/-- isinstance of own classes -/
def sisiB (K : PySem.W.Frag) (C : Addr) : Bool := decide (PySem.W.findIn K (.ref C) "__class__" = some (some (.builtin "object.__class__"))) && decide (PySem.W.specialIn K (.builtin "object.__class__") "__get__" = some (some (.builtin "getset_descriptor.__get__"))) && decide (PySem.W.takesIn K (.builtin "object.__class__") = some true) && decide (PySem.W.mroIn K C (.type "object") = some true)
theorem sisiB_ok {K : PySem.W.Frag} {C : Addr} (h : sisiB K C = true) : SlX.SIsi K C := by
  simp only [sisiB, Bool.and_eq_true, decide_eq_true_eq] at h
  exact ⟨h.1.1.1, h.1.1.2, h.1.2, h.2⟩
def tysAll : List Ty := [.int, .bool, .str, .tuple, .list, .dict, .nonety]
def isiB (K : PySem.W.Frag) (cs : List CE) : Bool := cs.all fun c => sisiB K (He.ga K c.name) && (tysAll.all fun u => decide (PySem.W.kitOne K (.type u.nm) (.ref (He.ga K c.name)) = some false)) && cs.all fun e => decide (PySem.W.kitOne K (.ref (He.ga K e.name)) (.ref (He.ga K c.name)) = some (decide (e.name = c.name)))
def atIsi (x : Str) : List CE → Nat → List (Nat × Nat)
  | [], _ => []
  | c :: r, n => (n, match decide (c.name = x) with | true => 1 | false => 0) :: atIsi x r (n + 1)
def isiOf (cs : List CE) (x : Str) : List (Nat × Nat) := match cs.any fun c => decide (c.name = x) with
  | true => atIsi x cs 0
  | false => []
theorem atIsi_ok {x : Str} {q : Nat × Nat} : ∀ {l : List CE} {n : Nat}, q ∈ atIsi x l n → ∃ i c, q.1 = n + i ∧ l[i]? = some c ∧ Nat.beq q.2 1 = decide (c.name = x)
  | [], _, h => by cases h
  | c :: r, n, h => by
    rcases List.mem_cons.mp h with rfl | h
    · refine ⟨0, c, rfl, rfl, ?_⟩
      by_cases e : c.name = x
      · rw [decide_eq_true e] <;> rfl
      · rw [decide_eq_false e] <;> rfl
    · obtain ⟨i, c', h1, h2, h3⟩ := atIsi_ok h
      exact ⟨i + 1, c', by omega, h2, h3⟩
def klsOf (cs : List CE) : Kls := ⟨fun x => cLook cs 0 x, fun f => atSlot f cs 0, fun m => atMeth m cs 0, fun f => atProp f cs 0, fun x => isiOf cs x⟩
def glo0 (gs : List (Str × D)) (bs : List Str) (xs : List XE) : Glo := ⟨fun x => gs.lookup x, fun x => bs.contains x, fun x => xLook xs 0 x, xs.length, fun k => match xs[k]? with | some e => e.fld | none => Str.empty, fun _ => none, ⟨fun _ => none, fun _ => [], fun _ => [], fun _ => [], fun _ => []⟩, false, true⟩
def gloOf (gs : List (Str × D)) (bs : List Str) (xs : List XE) (es : List Ent) (ms : MsC) : Glo := { glo0 gs bs xs with
  k := klsOf ms.c
  m := fun x => (ms.m.lookup x).bind fun i => (es[i]?).bind fun e => (headP e).bind fun a => metShape (glo0 gs bs xs) e.N e.d.scope a e.d.body }
def kpB (K : PySem.W.Frag) (es : List Ent) : Bool := match es with
  | [] => false
  | e :: r => PySem.W.keepIn K (.ref (He.fAd K e.d.at_)) && r.all fun e => PySem.W.keepIn K (.ref (He.fAd K e.d.at_))
theorem kpB_all {K : PySem.W.Frag} {es : List Ent} (h : kpB K es = true) : ∀ e ∈ es, PySem.W.keepIn K (.ref (He.fAd K e.d.at_)) = true := by
  cases es with
  | nil => cases h
  | cons e r =>
    have h : (PySem.W.keepIn K (.ref (He.fAd K e.d.at_)) && r.all fun e => PySem.W.keepIn K (.ref (He.fAd K e.d.at_))) = true := h
    rw [Bool.and_eq_true] at h
    intro e' he
    rcases List.mem_cons.mp he with z | z
    · rw [z]; exact h.1
    · exact List.all_eq_true.mp h.2 e' z
theorem kpB_ok {K : PySem.W.Frag} {es : List Ent} (h : kpB K es = true) (k : Nat) : PySem.W.keepIn K (.ref (faOf K es k)) = true := by
  have ha := kpB_all h
  unfold faOf
  cases q : es[k]? with
  | some e' => exact ha e' (List.mem_of_getElem? q)
  | none =>
    cases es with
    | nil => cases h
    | cons e r => exact ha e (List.mem_cons_self ..)
def tbOf (K : PySem.W.Frag) (es : List Ent) : List (Addr × Str) := (es.filter fun e => e.lam).map fun e => ((He.cT K e.d.at_).2, e.lamName)
def staOf (K : PySem.W.Frag) (es : List Ent) (xs : List XE) (ms : MsC) : Sta := ⟨K, tbOf K es, fun k => match ms.c[k]? with | some c => He.ga K c.name | none => 0, faOf K es, fun k => match xs[k]? with | some c => He.ga K c.name | none => 0, fun k => match xs[k]? with | some c => c.fld | none => Str.empty⟩
/-- all that is asked of the part K of the heap -/
def allB (P : Program) (K : PySem.W.Frag) (es : List Ent) (gs : List (Str × D)) (bs : List Str) (xs : List XE) (ms : MsC) : Bool :=
  (gs.all fun p => match PySem.W.nsIn K mainGlobals p.1 with
    | some (some u) => repB K es 8 p.2 u
    | _ => false) &&
  ((("super" : Str) :: bs).all fun x => match PySem.W.nsIn K mainGlobals x with
    | some none => true
    | _ => false) &&
  kpB K es && (xs.all fun e => xB P K e) &&
  ((List.range xs.length).all fun i => (List.range xs.length).all fun j => decide (PySem.W.exmOne K (.ref ((staOf K es xs ms).ca i)) (.ref ((staOf K es xs ms).ca j)) = some (Nat.beq i j))) &&
  (ms.m.all fun m => match es[m.2]? with
    | some e => decide (e.d.name = m.1) && decide (e.d.qual = m.1) && decide (PySem.W.nsIn K mainGlobals m.1 = some (some (.ref (He.fAd K e.d.at_)))) && (match headP e with | some a => nodun a | none => false)
    | none => false) &&
  ((tbOf K es).all fun p => (tbOf K es).all fun q => !decide (p.1 = q.1) || decide (p.2 = q.2)) && (ms.c.all fun c => classB K es c) && isiB K ms.c
/-- addresses: what the names reach, the closures' cells, the statics -/
def asE (g : Addr → Option Obj) (n : Nat) : List Addr := cStatics :: (He.asD g n ++ (He.asD g n).flatMap fun a => match g a with
  | some ⟨_, _, .func fd, _⟩ => fd.closure.map (·.2)
  | _ => [])
def tfOf (es : List Ent) : List He.Defn := (es.filter fun e => e.lam).map fun e => e.d.at_
abbrev AlX : Type := Bool × He.AlD
def obsX (P : Program) (as : List Addr) (es : List Ent) (gs : List (Str × D)) (bs : List Str) (xs : List XE) (ms : MsC) (g : Addr → Option Obj) : AlX :=
  (allB P (He.frT g as) es gs bs xs ms && He.tabsB g (tfOf es) (He.frT g as), He.obsD [] (es.map Ent.d) (He.frT g as))
def valX (es : List Ent) : AlX := (true, He.valD (es.map Ent.d))
structure SaysX (P : Program) (es : List Ent) (gs : List (Str × D)) (bs : List Str) (xs : List XE) (ms : MsC) (h : Heap) (K : PySem.W.Frag) : Prop where
  all : allB P K es gs bs xs ms = true
  d : He.SaysD [] (es.map Ent.d) K
  hd : ∀ p ∈ tfOf es, PySem.W.codeHdIn K (He.cT K p).1 (He.cT K p).2 = true
  out : ∀ p ∈ tfOf es, K.lookup (He.cT K p).2 = none
  empty : ∀ p ∈ tfOf es, h.get? (He.cT K p).2 = some { cls := .none, data := .fields #[] }
theorem saysX_of {P : Program} {as : List Addr} {es : List Ent} {gs : List (Str × D)} {bs : List Str} {xs : List XE} {ms : MsC} {h : Heap} (e : obsX P as es gs bs xs ms h.get? = valX es) : SaysX P es gs bs xs ms h (He.frT h.get? as) := by
  have e1 : (allB P (He.frT h.get? as) es gs bs xs ms && He.tabsB h.get? (tfOf es) (He.frT h.get? as)) = true := congrArg (fun z : AlX => z.1) e
  have e2 : He.SaysD [] (es.map Ent.d) (He.frT h.get? as) := congrArg (fun z : AlX => z.2) e
  rw [Bool.and_eq_true] at e1
  have key : ∀ p ∈ tfOf es, PySem.W.codeHdIn (He.frT h.get? as) (He.cT (He.frT h.get? as) p).1 (He.cT (He.frT h.get? as) p).2 = true ∧ ∃ o, h.get? (He.cT (He.frT h.get? as) p).2 = some o ∧ He.emptyTab o = true := fun p hp => by
    have h1 := List.all_eq_true.mp e1.2 p hp
    rw [Bool.and_eq_true] at h1
    obtain ⟨h3, h4⟩ := h1
    refine ⟨h3, ?_⟩
    cases q : h.get? (He.cT (He.frT h.get? as) p).2 with
    | none => rw [q] at h4; cases h4
    | some o => rw [q] at h4; exact ⟨o, rfl, h4⟩
  exact ⟨e1.1, e2, fun p hp => (key p hp).1, fun p hp => by
    obtain ⟨_, o, q, z⟩ := key p hp
    exact He.frT_none q z, fun p hp => by
    obtain ⟨_, o, q, z⟩ := key p hp
    rw [q, He.emptyTab_eq z]⟩
def hookX (P : Program) (as : List Addr) (es : List Ent) (gs : List (Str × D)) (bs : List Str) (xs : List XE) (ms : MsC) : PySem.W.Hook where
  α := AlX
  obs := fun s => obsX P as es gs bs xs ms s.heap.get?
  val := fun _ => valX es
  says := fun _ h => ∃ K : PySem.W.Frag, K.In h ∧ SaysX P es gs bs xs ms h K
  of := fun _ _ e => ⟨_, He.frT_in, saysX_of e⟩
  keeps := fun _ _ _ ⟨K, a, c⟩ k => ⟨K, a.keeps k, ⟨c.all, c.d, c.hd, c.out, fun p hp => k _ _ (c.empty p hp)⟩⟩
theorem obsX_eq {P : Program} {as : List Addr} {es : List Ent} {gs : List (Str × D)} {bs : List Str} {xs : List XE} {ms : MsC} {g : Addr → Option Obj} {s : Shared} (h : ∀ a, g a = s.heap.get? a) : obsX P as es gs bs xs ms g = (hookX P as es gs bs xs ms).obs s := by
  have e : g = s.heap.get? := funext h
  rw [e] <;> rfl
theorem lookup_mem {α : Type} {gs : List (Str × α)} {x : Str} {d : α} (h : gs.lookup x = some d) : (x, d) ∈ gs := by
  induction gs with
  | nil => cases h
  | cons p gs ih =>
    rw [List.lookup_cons] at h
    split at h
    · rename_i e
      cases h
      have e := eq_of_beq e
      subst e
      exact List.mem_cons_self ..
    · exact List.mem_cons_of_mem _ (ih h)
theorem tf_of {es : List Ent} {e : Ent} (he : e ∈ es) (hl : e.lam = true) : e.d.at_ ∈ tfOf es := List.mem_map.mpr ⟨e, List.mem_filter.mpr ⟨he, hl⟩, rfl⟩
theorem kls_ok {K : PySem.W.Frag} {h : Heap} {mg : Str → Option Value} {es : List Ent} {xs : List XE} {ms : MsC} (inK : K.In h) (hg : h.Ns mainGlobals mg) (c8 : (ms.c.all fun c => classB K es c) = true) (c9 : isiB K ms.c = true) : KOk (staOf K es xs ms) K mg (klsOf ms.c) := by
  have cl : ∀ i c, ms.c[i]? = some c → (staOf K es xs ms).cl i = He.ga K c.name ∧ classB K es c = true := fun i c e => by
    refine ⟨?_, List.all_eq_true.mp c8 c (List.mem_of_getElem? e)⟩
    show (match ms.c[i]? with | some c => He.ga K c.name | none => 0) = _
    rw [e]
  refine ⟨fun x k np j hx => ?_, fun f q hq => ?_, fun m q hq => ?_, fun f q hq => ?_, fun x q0 hq0 => ?_⟩
  · obtain ⟨i, c, rfl, e, rfl, rfl⟩ := cLook_ok (show cLook ms.c 0 x = some (k, np, j) from hx)
    rw [Nat.zero_add]
    obtain ⟨e1, e2⟩ := cl i c e
    rw [e1]
    simp only [classB, Bool.and_eq_true, decide_eq_true_eq] at e2
    obtain ⟨⟨⟨⟨⟨⟨⟨⟨b1, b2⟩, b3⟩, b4⟩, b5⟩, b6⟩, b7⟩, b8⟩, b9⟩ := e2
    exact ⟨PySem.W.mg_of inK hg b1, ⟨b2, b3, b4, b5⟩⟩
  · obtain ⟨i, c, e0, e, hs⟩ := atSlot_ok hq
    rw [Nat.zero_add] at e0
    obtain ⟨e1, e2⟩ := cl i c e
    rw [e0, e1]
    simp only [classB, Bool.and_eq_true, decide_eq_true_eq] at e2
    obtain ⟨⟨⟨⟨⟨⟨⟨⟨b1, b2⟩, b3⟩, b4⟩, b5⟩, b6⟩, b7⟩, b8⟩, b9⟩ := e2
    have := slotsB_ok b7 hs
    rw [Nat.zero_add] at this
    exact ⟨sclsB_ok b6, slotB_ok this⟩
  · obtain ⟨i, c, e0, e, hs⟩ := atMeth_ok hq
    rw [Nat.zero_add] at e0
    obtain ⟨e1, e2⟩ := cl i c e
    rw [e0, e1]
    simp only [classB, Bool.and_eq_true, decide_eq_true_eq] at e2
    obtain ⟨⟨⟨⟨⟨⟨⟨⟨b1, b2⟩, b3⟩, b4⟩, b5⟩, b6⟩, b7⟩, b8⟩, b9⟩ := e2
    have h3 := List.all_eq_true.mp b8 _ (lookup_mem hs)
    simp only [Bool.and_eq_true, decide_eq_true_eq] at h3
    exact ⟨sclsB_ok b6, ⟨h3.1.1, h3.1.2, h3.2⟩⟩
  · obtain ⟨i, c, e0, e, hs⟩ := atProp_ok hq
    rw [Nat.zero_add] at e0
    obtain ⟨e1, e2⟩ := cl i c e
    rw [e0, e1]
    simp only [classB, Bool.and_eq_true, decide_eq_true_eq] at e2
    obtain ⟨⟨⟨⟨⟨⟨⟨⟨b1, b2⟩, b3⟩, b4⟩, b5⟩, b6⟩, b7⟩, b8⟩, b9⟩ := e2
    exact ⟨sclsB_ok b6, getB_ok (List.all_eq_true.mp b9 _ (lookup_mem hs))⟩
  · have hq0 : q0 ∈ isiOf ms.c x := hq0
    have eL : isiOf ms.c x = atIsi x ms.c 0 ∧ ∃ c ∈ ms.c, c.name = x := by
      unfold isiOf at hq0 ⊢
      cases ea : ms.c.any fun c => decide (c.name = x) with
      | true =>
        obtain ⟨c, h1, h2⟩ := List.any_eq_true.mp ea
        exact ⟨rfl, c, h1, of_decide_eq_true h2⟩
      | false => rw [ea] at hq0; cases hq0
    obtain ⟨eL, c, hc, hn⟩ := eL
    obtain ⟨k, hk⟩ := List.getElem?_of_mem hc
    obtain ⟨e1, e2⟩ := cl k c hk
    have i1 := List.all_eq_true.mp c9 c hc
    simp only [Bool.and_eq_true] at i1
    obtain ⟨⟨i1, i2⟩, i3⟩ := i1
    simp only [classB, Bool.and_eq_true, decide_eq_true_eq] at e2
    obtain ⟨⟨⟨⟨⟨⟨⟨⟨b1, b2⟩, b3⟩, b4⟩, b5⟩, b6⟩, b7⟩, b8⟩, b9⟩ := e2
    refine ⟨k, by rw [e1, ← hn]; exact PySem.W.mg_of inK hg b1, fun u => ?_, fun q hq => ?_⟩
    · rw [e1]
      exact of_decide_eq_true (List.all_eq_true.mp i2 u (by cases u <;> simp [tysAll]))
    · have hq : q ∈ isiOf ms.c x := hq
      rw [eL] at hq
      obtain ⟨i, d, e0, hd, hb⟩ := atIsi_ok hq
      rw [Nat.zero_add] at e0
      obtain ⟨f1, f2⟩ := cl i d hd
      rw [e0, e1, f1, hb]
      have j1 := List.all_eq_true.mp c9 d (List.mem_of_getElem? hd)
      simp only [Bool.and_eq_true] at j1
      simp only [classB, Bool.and_eq_true, decide_eq_true_eq] at f2
      obtain ⟨⟨⟨⟨⟨⟨⟨⟨d1, d2⟩, d3⟩, d4⟩, d5⟩, d6⟩, d7⟩, d8⟩, d9⟩ := f2
      have := of_decide_eq_true (List.all_eq_true.mp i3 d (List.mem_of_getElem? hd))
      rw [← hn]
      exact ⟨sclsB_ok d6, sisiB_ok j1.1.1, this⟩
theorem says_facts {P : Program} {es : List Ent} {gs : List (Str × D)} {bs : List Str} {xs : List XE} {ms : MsC} {K : PySem.W.Frag} {h : Heap} {mg : Str → Option Value} (inK : K.In h) (hg : h.Ns mainGlobals mg) (c : SaysX P es gs bs xs ms h K) :
    Facts P (staOf K es xs ms) (gloOf gs bs xs es ms) es mg := by
  have ca := c.all
  simp only [allB, Bool.and_eq_true] at ca
  obtain ⟨⟨⟨⟨⟨⟨⟨⟨c1, c2⟩, c3⟩, c4⟩, c5⟩, c6⟩, c7⟩, c8⟩, c9⟩ := ca
  have free : ∀ x ∈ ("super" : Str) :: bs, mg x = none := fun x hx => by
    have hm := List.all_eq_true.mp c2 x hx
    cases q : PySem.W.nsIn K mainGlobals x with
    | none => rw [q] at hm; cases hm
    | some o =>
      rw [q] at hm
      cases o with
      | some u => cases hm
      | none => exact PySem.W.mg_none_of inK hg q
  refine ⟨rfl, fun x d hx => ?_, fun x hx => free x (List.mem_cons_of_mem _ (List.contains_iff_mem.mp hx)), fun k => kpB_ok c3 k, fun e he => ?_, free _ (List.mem_cons_self ..), fun k => rfl, fun x k b hx => ?_, fun i j hi hj => ?_, fun x hs d hx => ?_, kls_ok inK hg c8 c9, fun e he hl => ⟨?_, fun p hp hp1 => ?_⟩⟩
  · have hm := List.all_eq_true.mp c1 _ (lookup_mem hx)
    dsimp only at hm
    cases q : PySem.W.nsIn K mainGlobals x with
    | none => rw [q] at hm; cases hm
    | some o =>
      rw [q] at hm
      cases o with
      | none => cases hm
      | some u =>
        obtain ⟨v, r, k⟩ := repB_ok (S := staOf K es xs ms) rfl 8 hm
        exact ⟨u, v, PySem.W.mg_of inK hg q, r, k⟩
  · obtain ⟨i, hi⟩ := List.getElem?_of_mem he
    exact c.d.def_ i (by rw [List.getElem?_map, hi] <;> rfl)
  · obtain ⟨j, e, rfl, he, rfl, rfl⟩ := xLook_ok (show xLook xs 0 x = some (k, b) from hx)
    rw [Nat.zero_add]
    have hlt : j < xs.length := by rw [List.getElem?_eq_some_iff] at he; exact he.1
    refine ⟨hlt, ?_⟩
    have hb := List.all_eq_true.mp c4 e (List.mem_of_getElem? he)
    unfold xB at hb
    rw [Bool.and_eq_true] at hb
    have h1 := of_decide_eq_true hb.1
    have eca : (staOf K es xs ms).ca j = He.ga K e.name := by
      show (match xs[j]? with | some c => He.ga K c.name | none => 0) = _
      rw [he]
    have ecf : (staOf K es xs ms).cf j = e.fld := by
      show (match xs[j]? with | some c => c.fld | none => Str.empty) = _
      rw [he]
    refine ⟨by rw [eca]; exact PySem.W.mg_of inK hg h1, fun ho => ?_, fun ho => ?_⟩
    · have h2 := hb.2
      rw [ho] at h2
      rw [eca]
      obtain ⟨z1, z2, z3, z4⟩ := He.exc_ok h2
      exact ⟨_, _, _, _, F.excBase_ValueError, z1, z2, z3, z4⟩
    · have h2 := hb.2
      rw [ho] at h2
      dsimp only at h2
      rw [Bool.and_eq_true] at h2
      obtain ⟨kd, hk, hown⟩ := List.any_eq_true.mp h2.1
      rw [eca, ecf]
      exact ⟨⟨_, _, _, _, _, ownK_ok (kinds_ok kd hk) hown⟩, xfB_ok h2.2⟩
  · have h1 := List.all_eq_true.mp c5 i (List.mem_range.mpr hi)
    exact of_decide_eq_true (List.all_eq_true.mp h1 j (List.mem_range.mpr hj))
  · obtain ⟨i, h1, hx⟩ := Option.bind_eq_some_iff.mp (show ((ms.m.lookup x).bind fun i => (es[i]?).bind fun e => (headP e).bind fun a => metShape (glo0 gs bs xs) e.N e.d.scope a e.d.body) = some (hs, d) from hx)
    obtain ⟨e, h2, hx⟩ := Option.bind_eq_some_iff.mp hx
    obtain ⟨a, h3, hx⟩ := Option.bind_eq_some_iff.mp hx
    have hm := List.all_eq_true.mp c6 _ (lookup_mem h1)
    dsimp only at hm
    rw [h2] at hm
    dsimp only at hm
    rw [h3] at hm
    simp only [Bool.and_eq_true, decide_eq_true_eq] at hm
    obtain ⟨⟨⟨m1, m2⟩, m3⟩, m4⟩ := hm
    have he := List.mem_of_getElem? h2
    have hps : e.ps = [a] := by
      unfold headP at h3
      split at h3
      · rename_i e1
        rw [e1, Option.some.inj h3]
      · cases h3
    exact ⟨e, he, m1, m2, PySem.W.mg_of inK hg m3, kpB_all c3 e he, a, hps, m4, by rw [← hx]; exact metShape_eq (G := gloOf gs bs xs es ms) (G' := glo0 gs bs xs) rfl rfl rfl _ _ _ _⟩
  · exact List.mem_map.mpr ⟨e, List.mem_filter.mpr ⟨he, hl⟩, rfl⟩
  · have hq : ((He.cT K e.d.at_).2, e.lamName) ∈ tbOf K es := List.mem_map.mpr ⟨e, List.mem_filter.mpr ⟨he, hl⟩, rfl⟩
    have h1 := List.all_eq_true.mp (List.all_eq_true.mp c7 p hp) _ hq
    rw [Bool.or_eq_true] at h1
    rcases h1 with h1 | h1
    · have hp1 : p.1 = (He.cT K e.d.at_).2 := hp1
      rw [decide_eq_true (show p.1 = ((He.cT K e.d.at_).2, e.lamName).1 from hp1)] at h1
      cases h1
    · exact of_decide_eq_true h1
/-! ## the end -/
/-- the law's promise from the evaluator's answer -/
structure LawOk (es : List Ent) (n kl : Nat) : Prop where
  ok : ∀ ns : List Int, ns.length ≤ 63 → ∃ m', run (tabT es) n kl [.ref 0] ⟨1, [(0, .scr ns)]⟩ = .ok (.bl true) m'
theorem law_spec {S : Sta} {es : List Ent} {n kl : Nat} {ns : List Int} (h : LawOk es n kl) (hz : ns.length ≤ 63) {T : List Addr} {H : Hp} {a : Addr} (only : Only2 T H) (tabs : LamX.Tabs S.tb H) (sq : SqL S.K H a (ns.map V.int)) : spF S (run (tabT es) n) kl [.ref a] H (fun v _ => v = .bl true) fun _ _ _ => False := by
  obtain ⟨m', e⟩ := h.ok ns hz
  have get0 : ∀ k o', (⟨1, [(0, .scr ns)]⟩ : Mem).get k = some o' → k = 0 ∧ o' = .scr ns := by
    intro k o' e
    have e : (match Nat.beq k 0 with | true => some (O.scr ns) | false => none) = some o' := e
    cases q : Nat.beq k 0 with
    | true => rw [q] at e; exact ⟨Nat.eq_of_beq_eq_true q, (Option.some.inj e).symm⟩
    | false => rw [q] at e; cases e
  have r : RepO S (fun _ => a) 1 H a (.scr ns) := by
    rcases sq with (sq | sq) | sq
    · rcases only a with z | ⟨_, z⟩ | ⟨o, xs, z⟩
      · rw [sq] at z; cases z
      · rw [sq] at z; cases z
      · rw [sq] at z; cases z
    · exact .inr sq
    · exact .inl sq
  refine ⟨fun _ => a, ⟨1, [(0, .scr ns)]⟩, [.ref 0], .cons (.ref Nat.zero_lt_one) .nil, ⟨fun k o' e => ?_, fun k o' e => ?_, fun k k' o1 o2 e1 e2 _ _ _ => ?_, tabs⟩, ?_⟩
  · rw [(get0 k o' e).1]; exact Nat.zero_lt_one
  · obtain ⟨_, rfl⟩ := get0 k o' e; exact r
  · rw [(get0 k o1 e1).1, (get0 k' o2 e2).1]
  · rw [e]
    intro ι' H' _ v rv
    cases rv
    rfl
/-- the walk of a law -/
theorem walk_ev {l : PySem.W.OpenLaw} {q : Program} {loose : List Str} {XP : (Str → Option Value) → Heap → Prop} {d : DefRec} {N : List Addr} {es : List Ent} {gs : List (Str × D)} {bs : List Str} {xs : List XE} {ms : MsC} {n kl : Nat}
    (hn : l.most = some 63) (hdf : d.params.defaults = []) (hr : Room (n + 8) callerA) (hgl : gs.lookup d.name = some (.fn kl))
    (good : ∀ e ∈ es, e.good = true) (src : ∀ e ∈ es, e.body = e.src (gloOf gs bs xs es ms)) (ok : LawOk es n kl) :
    PySem.W.WalkO q loose XP (hookX l.prog N es gs bs xs ms).says l.row.toRowW d [] (fun f vs => PySem.call f vs) := by
  refine Att.attach_call hn hdf fun w s₀ s₁ mg mb fa o pm cd doc a vs ns G Y ho hd hcd hmg hobj hints hlen hgs => ?_
  obtain ⟨K, inK, c⟩ := Y
  have FX := says_facts inK G.T.g c
  have hfa : fa = (staOf K es xs ms).fa kl := by
    obtain ⟨u, v, h1, h2, h3⟩ := FX.gl d.name _ hgl
    rw [hmg] at h1
    cases h1
    have r := h3 (fun _ => 0) 0 (fun _ => none)
    cases r
    cases h2
    rfl
  obtain ⟨m', e1⟩ := ok.ok [] (by simp)
  have nb : run (tabT es) n kl [.ref 0] ⟨1, [(0, .scr [])]⟩ ≠ .bad := by rw [e1]; exact fun z => by cases z
  obtain ⟨fd, ps, hbi, hlen2, FF⟩ := lvl (P := l.prog) (w := w) FX good src n kl [.ref 0] _ nb
  have hl1 := hlen2 _ _ nb
  obtain ⟨x, rfl⟩ : ∃ x, ps = [x] := by
    match ps, hl1 with
    | [x], _ => exact ⟨x, rfl⟩
  subst hfa
  refine law_go (cs := (tfOf es).map (He.cT K)) inK G.T.g G.T.b G.T.builtins G.T.nolimit hgs (fun p hp => ?_) (fun p hp => ?_) (fun p hp => ?_) G.T.bmain hobj hints (Nat.le_trans hlen (by decide)) hr (fun base _ _ tb => FF base fun e he hl => tb _ (List.mem_map.mpr ⟨_, tf_of he hl, rfl⟩)) hbi fun H only hH sq => law_spec ok hlen only (fun p hp => ?_) sq
  · obtain ⟨q, hq, rfl⟩ := List.mem_map.mp hp
    exact c.empty q hq
  · obtain ⟨q, hq, rfl⟩ := List.mem_map.mp hp
    exact c.out q hq
  · obtain ⟨q, hq, rfl⟩ := List.mem_map.mp hp
    exact PySem.W.codeHd_of_K inK (c.hd q hq)
  · obtain ⟨e, he, rfl⟩ := List.mem_map.mp (show p ∈ tbOf K es from hp)
    obtain ⟨he, hl⟩ := List.mem_filter.mp he
    exact LamX.TabS.nil (hH _ (List.mem_map.mpr ⟨_, tf_of he (by simpa using hl), rfl⟩))
end Ev

set_option Elab.async false
set_option linter.all false
set_option maxRecDepth 100000
set_option maxHeartbeats 4000000
namespace Ev
open PySem L2

/-! ## the evaluator by equations -/
theorem mul_l {i j : Int} (h : b64 i = true) : binI .mul i j = some (i * j) := by
  show guardO (b64 i || b64 j || _) (i * j) = _
  rw [h] <;> rfl
theorem mul_r {i j : Int} (h : b64 j = true) : binI .mul i j = some (i * j) := by
  show guardO (b64 i || b64 j || _) (i * j) = _
  rw [h]; cases b64 i <;> rfl
section
variable {i j : Int} {m : Mem}
theorem mulF_r (h : b64 j = true) : binF .mul (.int i) (.int j) m = .ok (.int (i * j)) m := by unfold binF; dsimp only; rw [mul_r h] <;> rfl
theorem mulF_l (h : b64 i = true) : binF .mul (.int i) (.int j) m = .ok (.int (i * j)) m := by unfold binF; dsimp only; rw [mul_l h] <;> rfl
theorem addF : binF .add (.int i) (.int j) m = .ok (.int (i + j)) m := rfl
theorem subF : binF .sub (.int i) (.int j) m = .ok (.int (i - j)) m := rfl
theorem fdivF (h : decide (j = 0) = false) (h2 : Nat.blt j.natAbs.log2 9000 = true) : binF .fdiv (.int i) (.int j) m = .ok (.int (i.fdiv j)) m := by
  have e : binI .fdiv i j = some (i.fdiv j) := by
    show guardO (!decide (j = 0) && _) _ = _
    rw [h, h2] <;> rfl
  unfold binF; dsimp only; rw [e] <;> rfl
theorem modF (h : decide (j = 0) = false) : binF .mod (.int i) (.int j) m = .ok (.int (i.fmod j)) m := by
  have e : binI .mod i j = some (i.fmod j) := by
    show guardO (!decide (j = 0)) _ = _
    rw [h] <;> rfl
  unfold binF; dsimp only; rw [e] <;> rfl
theorem ltM : cmpM .lt (.int i) (.int j) m = .ok (.bl (decide (i < j))) m := rfl
theorem leM : cmpM .le (.int i) (.int j) m = .ok (.bl (decide (i ≤ j))) m := rfl
theorem gtM : cmpM .gt (.int i) (.int j) m = .ok (.bl (decide (j < i))) m := rfl
theorem geM : cmpM .ge (.int i) (.int j) m = .ok (.bl (decide (j ≤ i))) m := rfl
theorem eqM : cmpM .eq (.int i) (.int j) m = .ok (.bl (decide (i = j))) m := rfl
theorem neM : cmpM .ne (.int i) (.int j) m = .ok (.bl (!decide (i = j))) m := rfl
end
section
variable {es : List Ent}
abbrev Lv (T : Nat → Option Fn) (n : Nat) : Fns := ⟨run T (n + 2), run T n⟩
theorem run_top {n k : Nat} {f : Fn} {ds : List D} {m : Mem} (h : tabT es k = some f) (h1 : (Nat.beq ds.length f.np && Nat.ble f.np f.nl) = true) : run (tabT es) (n + 3) k ds m = fin m.nx (denTop (Lv (tabT es) n) m.nx f.dr f.body (startR f ds) m) := by
  show (match tabT es k with | some f => (match Nat.beq ds.length f.np && Nat.ble f.np f.nl with | true => fin m.nx (denTop (Lv (tabT es) n) m.nx f.dr f.body (startR f ds) m) | false => .bad) | none => .bad) = _
  rw [h]
  dsimp only
  rw [h1]
theorem run_at {n k : Nat} {f : Fn} {ds : List D} {m : Mem} (h : tabT es k = some f) (h1 : (Nat.beq ds.length f.np && Nat.ble f.np f.nl) = true) (hd : f.dr = [] := by rfl) : run (tabT es) (n + 3) k ds m = fin m.nx (denS (Lv (tabT es) n) f.body (startR f ds) m) := by
  rw [run_top h h1, hd]
  rfl
end
section
variable {a b c d : D} {m : Mem}
theorem ix20 : ixF (.tup [a, b]) (.int 0) m = .ok a m := rfl
theorem ix21 : ixF (.tup [a, b]) (.int 1) m = .ok b m := rfl
theorem ix30 : ixF (.tup [a, b, c]) (.int 0) m = .ok a m := rfl
theorem ix31 : ixF (.tup [a, b, c]) (.int 1) m = .ok b m := rfl
theorem ix32 : ixF (.tup [a, b, c]) (.int 2) m = .ok c m := rfl
theorem ix40 : ixF (.tup [a, b, c, d]) (.int 0) m = .ok a m := rfl
theorem ix41 : ixF (.tup [a, b, c, d]) (.int 1) m = .ok b m := rfl
theorem ix42 : ixF (.tup [a, b, c, d]) (.int 2) m = .ok c m := rfl
theorem ix43 : ixF (.tup [a, b, c, d]) (.int 3) m = .ok d m := rfl
theorem len0 : lenF (.tup []) m = .ok (.int 0) m := rfl
theorem len1 : lenF (.tup [a]) m = .ok (.int 1) m := rfl
theorem len2 : lenF (.tup [a, b]) m = .ok (.int 2) m := rfl
theorem len3 : lenF (.tup [a, b, c]) m = .ok (.int 3) m := rfl
theorem len4 : lenF (.tup [a, b, c, d]) m = .ok (.int 4) m := rfl
theorem len5 {e : D} : lenF (.tup [a, b, c, d, e]) m = .ok (.int 5) m := rfl
theorem newL_ok {xs : List D} (h : Nat.ble xs.length 16000000 = true) : newL xs m = .ok (.ref m.nx) (m.new (.lst xs)) := by
  unfold newL
  rw [h]
theorem catF {xs ys : List D} (h : sizeB (xs.length + ys.length) = true) : binF .add (.tup xs) (.tup ys) m = .ok (.tup (xs ++ ys)) m := by
  show opt (guardO (sizeB (xs.length + ys.length)) (D.tup (xs ++ ys))) m = _
  rw [h] <;> rfl
end
section
variable {α : Type} {m : Mem} {A B : Out α} {x y : Bool}
theorem sel_t : sel (.bl true) A B = A := rfl
theorem sel_f : sel (.bl false) A B = B := rfl
theorem selAnd : sel (.bl x) (Out.ok (D.bl y) m) (Out.ok (D.bl false) m) = Out.ok (D.bl (x && y)) m := by cases x <;> rfl
theorem selOr : sel (.bl x) (Out.ok (D.bl true) m) (Out.ok (D.bl y) m) = Out.ok (D.bl (x || y)) m := by cases x <;> rfl
theorem selNot : sel (.bl x) (Out.ok (D.bl false) m) (Out.ok (D.bl true) m) = Out.ok (D.bl !x) m := by cases x <;> rfl
theorem truth_bl : truth (.bl x) m = .ok x m := rfl
end
structure WF (m : Mem) : Prop where
  low : lowM m.nx m.ob = true
  gc : gcL m.nx m.ob = m.ob
section
variable {n : Nat} {d : D} {m : Mem} {o : O} {ρ : Rho}
theorem canCut_same : canCut m.nx m = false := by unfold canCut; rw [Nat.beq_refl]
theorem finM_same : finM m.nx d m = .ok d m := by unfold finM; rw [canCut_same]
theorem tdM_same : tdM m.nx m = m := by unfold tdM; rw [canCut_same]
theorem tdR_same : tdR m.nx m ρ = ρ := by unfold tdR; rw [canCut_same]
theorem tdL_same {vs : List Nat} : tdL m.nx vs ρ m = (ρ, m) := by unfold tdL; rw [canCut_same]
theorem tdL_nx {vs : List Nat} {m' : Mem} (h : m'.nx = m.nx) : tdL m.nx vs ρ m' = (ρ, m') := by rw [← h]; exact tdL_same
theorem tdS_same : tdS m.nx ρ m = m := by unfold tdS; rw [canCut_same]
theorem tdS_nx {m' : Mem} (h : m'.nx = m.nx) : tdS m.nx ρ m' = m' := by rw [← h]; exact tdS_same
theorem tdS_put {k : Nat} : tdS m.nx ρ (m.put k o) = m.put k o := tdS_nx rfl
theorem blt_self : Nat.blt n n = false := by
  cases e : Nat.blt n n with
  | false => rfl
  | true => exact absurd (Nat.le_of_ble_eq_true e) (Nat.not_succ_le_self n)
theorem nx_new : (m.new o).nx = m.nx + 1 := rfl
theorem canCut_new (w : WF m) : canCut m.nx (m.new o) = true := by
  show (match Nat.beq (m.nx + 1) m.nx with | true => false | false => lowM m.nx ((m.nx, o) :: m.ob)) = true
  rw [nbf (by omega)]
  show (match Nat.blt m.nx m.nx with | true => _ | false => lowM m.nx m.ob) = true
  rw [blt_self]
  exact w.low
theorem cutM_new (w : WF m) : cutM m.nx (m.new o) = m := by
  show (⟨m.nx, match Nat.blt m.nx m.nx with | true => _ | false => gcL m.nx m.ob⟩ : Mem) = m
  rw [blt_self]
  dsimp only
  rw [w.gc]
/-- a call that has made one list and gives nothing of it -/
theorem finM_new (w : WF m) (h : lowD m.nx d = true) : finM m.nx d (m.new o) = .ok d m := by
  unfold finM
  rw [canCut_new w, h, cutM_new w]
theorem tdM_new (w : WF m) : tdM m.nx (m.new o) = m := by unfold tdM; rw [canCut_new w, cutM_new w]
theorem lst_new {ds : List D} : (m.new (.lst ds)).lst m.nx = some ds := by
  unfold Mem.lst
  rw [look_new, if_pos rfl]
theorem lst_old {k : Nat} (h : k ≠ m.nx) : (m.new o).lst k = m.lst k := by
  unfold Mem.lst
  rw [look_new, if_neg h]
theorem lowM_app {l r : List (Nat × O)} (h : ∀ p ∈ l, n ≤ p.1) : lowM n (l ++ r) = lowM n r := by
  induction l with
  | nil => rfl
  | cons p l ih =>
    have hp : Nat.blt p.1 n = false := by
      cases e : Nat.blt p.1 n with
      | false => rfl
      | true => exact absurd (Nat.le_of_ble_eq_true e) (by have := h p (List.mem_cons_self ..); omega)
    show (match Nat.blt p.1 n with | true => _ | false => lowM n (l ++ r)) = _
    rw [hp]
    exact ih fun q hq => h q (List.mem_cons_of_mem _ hq)
theorem gcL_app {l r : List (Nat × O)} (h : ∀ p ∈ l, n ≤ p.1) : gcL n (l ++ r) = gcL n r := by
  induction l with
  | nil => rfl
  | cons p l ih =>
    have hp : Nat.blt p.1 n = false := by
      cases e : Nat.blt p.1 n with
      | false => rfl
      | true => exact absurd (Nat.le_of_ble_eq_true e) (by have := h p (List.mem_cons_self ..); omega)
    show (match Nat.blt p.1 n with | true => _ | false => gcL n (l ++ r)) = _
    rw [hp]
    exact ih fun q hq => h q (List.mem_cons_of_mem _ hq)
/-- behind calls that have made lists, and give nothing of them -/
theorem canCut_ext {l : List (Nat × O)} {nx : Nat} (w : WF m) (h : ∀ p ∈ l, m.nx ≤ p.1) (hn : m.nx < nx) : canCut m.nx ⟨nx, l ++ m.ob⟩ = true := by
  show (match Nat.beq nx m.nx with | true => false | false => lowM m.nx (l ++ m.ob)) = true
  rw [nbf (by omega)]
  dsimp only
  rw [lowM_app h]
  exact w.low
theorem finM_ext {l : List (Nat × O)} {nx : Nat} (w : WF m) (h : ∀ p ∈ l, m.nx ≤ p.1) (hn : m.nx < nx) (hd : lowD m.nx d = true) : finM m.nx d ⟨nx, l ++ m.ob⟩ = .ok d m := by
  unfold finM
  rw [canCut_ext w h hn, hd]
  show Out.ok d (⟨m.nx, gcL m.nx (l ++ m.ob)⟩ : Mem) = _
  rw [gcL_app h, w.gc]
theorem tdS_new (w : WF m) (h : lowAll m.nx ρ = true) : tdS m.nx ρ (m.new o) = m := by
  unfold tdS
  rw [canCut_new w, h, cutM_new w]
theorem tdS_ext {l : List (Nat × O)} {nx : Nat} (w : WF m) (h : ∀ p ∈ l, m.nx ≤ p.1) (hn : m.nx < nx) (hd : lowAll m.nx ρ = true) : tdS m.nx ρ ⟨nx, l ++ m.ob⟩ = m := by
  unfold tdS
  rw [canCut_ext w h hn, hd]
  show (⟨m.nx, gcL m.nx (l ++ m.ob)⟩ : Mem) = _
  rw [gcL_app h, w.gc]
end
/-! ### loops -/
section
variable {vs : List Nat} {c : Rho → MV Bool} {b : Rho → Mem → OutS}
theorem whileL_go {k : Nat} {ρ : Rho} {m : Mem} : whileL vs c b (k + 1) ρ m = (c ρ m).st ρ fun t m1 => match t with
    | false => .nx ρ m1
    | true => (match b ρ m1 with
      | .nx ρ' m' => whileL vs c b k (tdL m.nx vs ρ' m').1 (tdL m.nx vs ρ' m').2
      | .cnt ρ' m' => whileL vs c b k (tdL m.nx vs ρ' m').1 (tdL m.nx vs ρ' m').2
      | .brk ρ' m' => .nx ρ' m'
      | .ret d m' => .ret d m'
      | .exc x ρ' m' => .exc x ρ' m'
      | .bad => .bad) := rfl
/-- a while that changes the memory in no way: by a state, a measure -/
theorem whileL_pure {σ : Type} {st : σ → Rho} {m : Mem} {I R : σ → Prop} {μ : σ → Nat}
    (h : ∀ s, I s → (c (st s) m = .ok false m ∧ R s) ∨ ∃ s', c (st s) m = .ok true m ∧ b (st s) m = .nx (st s') m ∧ I s' ∧ μ s' < μ s) :
    ∀ (k : Nat) (s : σ), I s → μ s < k → ∃ s', whileL vs c b k (st s) m = .nx (st s') m ∧ R s'
  | 0, s, _, h2 => absurd h2 (Nat.not_lt_zero _)
  | k + 1, s, i, h2 => by
    rcases h s i with ⟨e, r⟩ | ⟨s', e1, e2, i', l⟩
    · exact ⟨s, by rw [whileL_go, e] <;> rfl, r⟩
    · obtain ⟨s2, e3, r⟩ := whileL_pure h k s' i' (by omega)
      refine ⟨s2, ?_, r⟩
      rw [whileL_go, e1]
      show (match b (st s) m with
        | .nx ρ' m' => whileL vs c b k (tdL m.nx vs ρ' m').1 (tdL m.nx vs ρ' m').2
        | .cnt ρ' m' => whileL vs c b k (tdL m.nx vs ρ' m').1 (tdL m.nx vs ρ' m').2
        | .brk ρ' m' => .nx ρ' m'
        | .ret d m' => .ret d m'
        | .exc x ρ' m' => .exc x ρ' m'
        | .bad => .bad) = _
      rw [e2]
      dsimp only
      rw [tdL_same]
      exact e3
end
section
variable {vs : List Nat} {a : D → Rho → MV Rho} {b : Rho → Mem → OutS}
theorem forL_go {d : D} {r : List D} {ρ : Rho} {m : Mem} : forL vs a b (d :: r) ρ m = (a d ρ m).st ρ fun ρ1 m1 => (match b ρ1 m1 with
      | .nx ρ' m' => forL vs a b r (tdL m.nx vs ρ' m').1 (tdL m.nx vs ρ' m').2
      | .cnt ρ' m' => forL vs a b r (tdL m.nx vs ρ' m').1 (tdL m.nx vs ρ' m').2
      | .brk ρ' m' => .nx ρ' m'
      | .ret d m' => .ret d m'
      | .exc x ρ' m' => .exc x ρ' m'
      | .bad => .bad) := rfl
/-- a for over items, by their places: each turn keeps a claim -/
theorem forL_cnt {P : Nat → Rho → Mem → Prop} {I : D → Prop} {L : Nat}
    (h : ∀ i d ρ m, i < L → I d → P i ρ m → ∃ ρ1 m1 ρ' m', a d ρ m = .ok ρ1 m1 ∧ (b ρ1 m1 = .nx ρ' m' ∨ b ρ1 m1 = .cnt ρ' m') ∧ P (i + 1) (tdL m.nx vs ρ' m').1 (tdL m.nx vs ρ' m').2) :
    ∀ (ds : List D) (i : Nat) (ρ : Rho) (m : Mem), i + ds.length ≤ L → (∀ d ∈ ds, I d) → P i ρ m → ∃ ρ' m', forL vs a b ds ρ m = .nx ρ' m' ∧ P (i + ds.length) ρ' m'
  | [], i, ρ, m, _, _, p => ⟨ρ, m, rfl, p⟩
  | d :: r, i, ρ, m, hL, hI, p => by
    rw [List.length_cons] at hL
    obtain ⟨ρ1, m1, ρ', m', e1, e2, p'⟩ := h i d ρ m (by omega) (hI d (List.mem_cons_self ..)) p
    obtain ⟨ρ2, m2, e3, p2⟩ := forL_cnt h r (i + 1) _ _ (by omega) (fun d hd => hI d (List.mem_cons_of_mem _ hd)) p'
    refine ⟨ρ2, m2, ?_, by rw [List.length_cons, Nat.add_comm r.length 1, ← Nat.add_assoc]; exact p2⟩
    rw [forL_go, e1]
    show (match b ρ1 m1 with
      | .nx ρ' m' => forL vs a b r (tdL m.nx vs ρ' m').1 (tdL m.nx vs ρ' m').2
      | .cnt ρ' m' => forL vs a b r (tdL m.nx vs ρ' m').1 (tdL m.nx vs ρ' m').2
      | .brk ρ' m' => .nx ρ' m'
      | .ret d m' => .ret d m'
      | .exc x ρ' m' => .exc x ρ' m'
      | .bad => .bad) = _
    rcases e2 with e2 | e2
    · rw [e2]; exact e3
    · rw [e2]; exact e3
theorem forL_inv {P : Rho → Mem → Prop} {I : D → Prop}
    (h : ∀ d ρ m, I d → P ρ m → ∃ ρ1 m1 ρ' m', a d ρ m = .ok ρ1 m1 ∧ b ρ1 m1 = .nx ρ' m' ∧ P (tdL m.nx vs ρ' m').1 (tdL m.nx vs ρ' m').2) (ds : List D) (ρ : Rho) (m : Mem) (hI : ∀ d ∈ ds, I d) (p : P ρ m) : ∃ ρ' m', forL vs a b ds ρ m = .nx ρ' m' ∧ P ρ' m' :=
  forL_cnt (P := fun _ => P) (fun _ d ρ m _ i p => let ⟨ρ1, m1, ρ', m', e1, e2, q⟩ := h d ρ m i p; ⟨ρ1, m1, ρ', m', e1, .inl e2, q⟩) ds 0 ρ m (Nat.le_refl _) hI p
end
theorem mem_iota {d : D} : ∀ {k : Nat} {a : Int}, d ∈ iota a k → ∃ i, d = .int i ∧ a ≤ i ∧ i < a + k
  | 0, _, h => by cases h
  | k + 1, a, h => by
    rcases List.mem_cons.mp h with rfl | h
    · exact ⟨a, rfl, Int.le_refl _, by omega⟩
    · obtain ⟨i, e, hi, hj⟩ := mem_iota (k := k) h
      exact ⟨i, e, by omega, by omega⟩
/-- a comprehension that changes the memory in no way -/
theorem compL_pure {asg : D → MV Rho} {c : Rho → MV Bool} {elt : Rho → MV D} {m : Mem} {Q : D → Prop} : ∀ (ds acc : List D), (∀ d ∈ ds, ∃ ρ t, asg d m = .ok ρ m ∧ c ρ m = .ok t m ∧ (t = true → ∃ x, elt ρ m = .ok x m ∧ Q x)) → (∀ x ∈ acc, Q x) →
    ∃ r, compL asg c elt ds acc m = .ok r m ∧ r.length ≤ acc.length + ds.length ∧ ∀ x ∈ r, Q x
  | [], acc, _, ha => ⟨acc.reverse, rfl, by rw [List.length_reverse]; exact Nat.le_refl _, fun x hx => ha x (List.mem_reverse.mp hx)⟩
  | d :: ds, acc, h, ha => by
    obtain ⟨ρ, t, e1, e2, e3⟩ := h d (List.mem_cons_self ..)
    show ∃ r, ((asg d m).bind fun ρ m1 => (c ρ m1).bind fun b m2 => match b with
      | true => (elt ρ m2).bind fun x m3 => compL asg c elt ds (x :: acc) m3
      | false => compL asg c elt ds acc m2) = _ ∧ _
    rw [e1]
    show ∃ r, ((c ρ m).bind fun b m2 => match b with
      | true => (elt ρ m2).bind fun x m3 => compL asg c elt ds (x :: acc) m3
      | false => compL asg c elt ds acc m2) = _ ∧ _
    rw [e2]
    cases t with
    | false =>
      obtain ⟨r, r1, r2, r3⟩ := compL_pure (asg := asg) (c := c) (elt := elt) (Q := Q) ds acc (fun d hd => h d (List.mem_cons_of_mem _ hd)) ha
      exact ⟨r, r1, by rw [List.length_cons]; omega, r3⟩
    | true =>
      obtain ⟨x, ex, qx⟩ := e3 rfl
      obtain ⟨r, r1, r2, r3⟩ := compL_pure (asg := asg) (c := c) (elt := elt) (Q := Q) ds (x :: acc) (fun d hd => h d (List.mem_cons_of_mem _ hd)) (fun y hy => by
        rcases List.mem_cons.mp hy with rfl | hy
        · exact qx
        · exact ha y hy)
      refine ⟨r, ?_, by rw [List.length_cons] at r2 ⊢; omega, r3⟩
      show ((elt ρ m).bind fun x m3 => compL asg c elt ds (x :: acc) m3) = _
      rw [ex]
      exact r1
/-- a comprehension over a list just made -/
theorem compM_new {own : List Nat} {ft : D → Rho → MV Rho} {fs : Rho → MV Src} {fc fe : Rho → MV D} {ρ : Rho} {m0 m : Mem} {ds : List D} {Q : D → Prop} (h : fs ρ m0 = .ok (.held m.nx ds) (m.new (.lst ds))) (hz : ds.length ≤ 16000000)
    (hd : ∀ d ∈ ds, ∃ ρ1 t, ft d (wipeR ρ own) (m.new (.rol ds)) = .ok ρ1 (m.new (.rol ds)) ∧ testM fc ρ1 (m.new (.rol ds)) = .ok t (m.new (.rol ds)) ∧ (t = true → ∃ x, fe ρ1 (m.new (.rol ds)) = .ok x (m.new (.rol ds)) ∧ Q x)) :
    ∃ r, compM own ft fs fc fe ρ m0 = .ok (.ref (m.nx + 1)) ((m.new (.lst ds)).new (.lst r)) ∧ r.length ≤ ds.length ∧ ∀ x ∈ r, Q x := by
  obtain ⟨r, e, l, q⟩ := compL_pure (asg := fun d m => ft d (wipeR ρ own) m) (c := testM fc) (elt := fe) (m := m.new (.rol ds)) (Q := Q) ds [] hd fun x hx => by cases hx
  have l' : r.length ≤ ds.length := by simpa using l
  refine ⟨r, ?_, l', q⟩
  unfold compM
  rw [h]
  show (noX (holdL m.nx (compL (fun d m => ft d (wipeR ρ own) m) (testM fc) fe ds []) (m.new (.lst ds)))).bind newL = _
  have hh : holdL m.nx (compL (fun d m => ft d (wipeR ρ own) m) (testM fc) fe ds []) (m.new (.lst ds)) = .ok r (m.new (.lst ds)) := by
    unfold holdL
    rw [show (m.new (.lst ds)).get m.nx = some (.lst ds) by rw [look_new, if_pos rfl]]
    dsimp only
    rw [show (m.new (.lst ds)).put m.nx (.rol ds) = m.new (.rol ds) by
      show (⟨m.nx + 1, match Nat.beq m.nx m.nx with | true => (m.nx, .rol ds) :: m.ob | false => (m.nx, .lst ds) :: repl m.nx (.rol ds) m.ob⟩ : Mem) = _
      rw [Nat.beq_refl] <;> rfl]
    rw [e]
    dsimp only
    rw [show (m.new (.rol ds)).put m.nx (.lst ds) = m.new (.lst ds) by
      show (⟨m.nx + 1, match Nat.beq m.nx m.nx with | true => (m.nx, .lst ds) :: m.ob | false => (m.nx, .rol ds) :: repl m.nx (.lst ds) m.ob⟩ : Mem) = _
      rw [Nat.beq_refl] <;> rfl]
  rw [hh]
  exact newL_ok (Nat.ble_eq_true_of_le (by omega))
theorem seq_nx {V : Fns} {x y : S} {ρ ρ' : Rho} {m m' : Mem} (h : denS V x ρ m = .nx ρ' m') : denS V (.seq x y) ρ m = denS V y ρ' (tdS m.nx ρ' m') := by
  show (match denS V x ρ m with | .nx ρ' m' => denS V y ρ' (tdS m.nx ρ' m') | o => o) = _
  rw [h]
theorem iff_t {V : Fns} {c : E} {x y : S} {ρ : Rho} {m m1 : Mem} (h : testM (den V c).e ρ m = .ok true m1) : denS V (.iff c x y) ρ m = denS V x ρ m1 := by
  show (testM (den V c).e ρ m).st ρ (fun t m1 => (match t with | true => denS V x ρ m1 | false => denS V y ρ m1)) = _
  rw [h] <;> rfl
theorem iff_f {V : Fns} {c : E} {x y : S} {ρ : Rho} {m m1 : Mem} (h : testM (den V c).e ρ m = .ok false m1) : denS V (.iff c x y) ρ m = denS V y ρ m1 := by
  show (testM (den V c).e ρ m).st ρ (fun t m1 => (match t with | true => denS V x ρ m1 | false => denS V y ρ m1)) = _
  rw [h] <;> rfl
theorem blt_of {V : Fns} {b : Blt} {es : E} {ρ : Rho} {m m1 : Mem} {ds : List D} (h : (den V es).e ρ m = .ok (.tup ds) m1) : (den V (.blt b es)).e ρ m = bltF b ds m1 := by
  show ((den V es).e ρ m).bind _ = _
  rw [h] <;> rfl
theorem call_of {V : Fns} {k : Nat} {es : E} {ρ : Rho} {m m1 : Mem} {ds : List D} (h : (den V es).e ρ m = .ok (.tup ds) m1) : (den V (.call k es)).e ρ m = V.F k ds m1 := by
  show ((den V es).e ρ m).bind _ = _
  rw [h] <;> rfl
theorem cons_of {V : Fns} {a b : E} {ρ : Rho} {m m1 m2 : Mem} {x : D} {ys : List D} (h : (den V a).e ρ m = .ok x m1) (h2 : (den V b).e ρ m1 = .ok (.tup ys) m2) : (den V (.cons a b)).e ρ m = .ok (.tup (x :: ys)) m2 := by
  show ((den V a).e ρ m).bind (fun x m1 => ((den V b).e ρ m1).bind _) = _
  rw [h]
  show ((den V b).e ρ m1).bind _ = _
  rw [h2] <;> rfl
theorem nilE_of {V : Fns} {ρ : Rho} {m : Mem} : (den V .nil).e ρ m = .ok (.tup []) m := rfl
theorem ret_of {V : Fns} {e : E} {ρ : Rho} {m m1 : Mem} {d : D} (h : (den V e).e ρ m = .ok d m1) : denS V (.ret e) ρ m = .ret d m1 := by
  show ((den V e).e ρ m).st ρ _ = _
  rw [h] <;> rfl
theorem seq_ret {V : Fns} {x y : S} {ρ : Rho} {m m' : Mem} {d : D} (h : denS V x ρ m = .ret d m') : denS V (.seq x y) ρ m = .ret d m' := by
  show (match denS V x ρ m with | .nx ρ' m' => denS V y ρ' (tdS m.nx ρ' m') | o => o) = _
  rw [h]
theorem skip_nx {V : Fns} {ρ : Rho} {m : Mem} : denS V .skip ρ m = .nx ρ m := rfl
theorem put_new {m : Mem} {o o' : O} : (m.new o).put m.nx o' = m.new o' := by
  show (⟨m.nx + 1, match Nat.beq m.nx m.nx with | true => (m.nx, o') :: m.ob | false => (m.nx, o) :: repl m.nx o' m.ob⟩ : Mem) = _
  rw [Nat.beq_refl] <;> rfl
theorem get_new {m : Mem} {o : O} : (m.new o).get m.nx = some o := by
  show (match Nat.beq m.nx m.nx with | true => some o | false => look m.nx m.ob) = _
  rw [Nat.beq_refl]
theorem finM_nx {m m' : Mem} {d : D} (h : m'.nx = m.nx) : finM m.nx d m' = .ok d m' := by rw [← h]; exact finM_same
theorem tdM_nx {m m' : Mem} (h : m'.nx = m.nx) : tdM m.nx m' = m' := by rw [← h]; exact tdM_same
theorem tdR_nx {m m' : Mem} {ρ : Rho} (h : m'.nx = m.nx) : tdR m.nx m' ρ = ρ := by rw [← h]; exact tdR_same
/-- a call gives a new list that holds none of the lists made -/
theorem finM_lst {m : Mem} {l : List (Nat × O)} {nx r : Nat} {ds : List D} (w : WF m) (h : ∀ p ∈ l, m.nx ≤ p.1) (hn : m.nx < nx) (hr : (⟨nx, l ++ m.ob⟩ : Mem).get r = some (.lst ds)) (hr2 : m.nx ≤ r) (hd : lowDs m.nx ds = true) :
    finM m.nx (.ref r) ⟨nx, l ++ m.ob⟩ = .ok (.ref m.nx) (m.new (.lst ds)) := by
  unfold finM
  rw [canCut_ext w h hn]
  have hb : lowD m.nx (.ref r) = false := by
    show Nat.blt r m.nx = false
    cases e : Nat.blt r m.nx with
    | false => rfl
    | true => exact absurd (Nat.le_of_ble_eq_true e) (by omega)
  rw [hb]
  dsimp only
  rw [hr]
  dsimp only
  rw [hd]
  show Out.ok _ (⟨m.nx + 1, (m.nx, .lst ds) :: gcL m.nx (l ++ m.ob)⟩ : Mem) = _
  rw [gcL_app h, w.gc] <;> rfl
theorem lt_of_beqNe {r n : Nat} : Nat.blt r n = true ↔ r < n := ⟨fun h => Nat.le_of_ble_eq_true h, fun h => Nat.ble_eq_true_of_le h⟩
end Ev

set_option Elab.async false
set_option linter.all false
set_option maxRecDepth 100000
set_option maxHeartbeats 4000000
namespace Ev
open PySem L2
/-! ### what the laws of errors share -/
theorem bb2 : b64 2 = true := by decide
theorem bb4 : b64 4 = true := by decide
theorem b64_of {i : Int} (h : -18446744073709551616 < i) (h2 : i < 18446744073709551616) : b64 i = true := by
  simp only [b64, Bool.and_eq_true, decide_eq_true_eq]
  exact ⟨h, h2⟩
theorem blt_log {t : Int} (h0 : 0 < t) (h1 : t ≤ 1000000000000) : Nat.blt t.natAbs.log2 9000 = true := by
  have h2 : t.natAbs < 2 ^ 9000 := Nat.lt_of_le_of_lt (show t.natAbs ≤ 1000000000000 by omega) (by decide +kernel)
  have h3 : t.natAbs.log2 < 9000 := (Nat.log2_lt (by omega)).mpr h2
  exact Nat.ble_eq_true_of_le h3
theorem d0_of {t : Int} (h : t ≠ 0) : decide (t = 0) = false := decide_eq_false h
theorem fmod_in {i t : Int} (h : 0 < t) : 0 ≤ i.fmod t ∧ i.fmod t < t := by
  rw [Int.fmod_eq_emod_of_nonneg _ (by omega)]
  exact ⟨Int.emod_nonneg _ (by omega), Int.emod_lt_of_pos _ h⟩
theorem fdiv_in {i t : Int} (h0 : 0 ≤ i) (h : 0 < t) : 0 ≤ i.fdiv t ∧ i.fdiv t ≤ i := by
  rw [Int.fdiv_eq_ediv_of_nonneg _ (by omega)]
  exact ⟨Int.ediv_nonneg h0 (by omega), Int.ediv_le_self _ h0⟩
theorem sq_ge {s : Int} (h : 1 ≤ s) : s ≤ s * s := by
  have : 0 ≤ (s - 1) * s := Int.mul_nonneg (by omega) (by omega)
  grind
theorem sq_le {r M : Int} (h0 : 0 ≤ r) (h1 : r * r ≤ M) (L : Int) (h2 : M < (L + 1) * (L + 1)) (hL : 0 ≤ L) : r ≤ L := by
  by_cases h : r ≤ L
  · exact h
  · have : (L + 1) * (L + 1) ≤ r * r := Int.mul_le_mul (by omega) (by omega) (by omega) (by omega)
    omega
theorem rngI_ok {a b : Int} (h1 : small a = true) (h2 : small b = true) {m : Mem} : rngI a b m = .ok (.items (iota a (b - a).toNat)) m := by
  unfold rngI
  rw [h1, h2] <;> rfl
theorem small_of {i : Int} (h : -4611686018427387904 ≤ i) (h2 : i < 4611686018427387904) : small i = true := by
  simp only [small, Bool.and_eq_true, decide_eq_true_eq]
  exact ⟨h, h2⟩
theorem bltLen {m : Mem} {r : Nat} {ds : List D} (h : m.lst r = some ds) : lenF (.ref r) m = .ok (.int ds.length) m := by
  unfold lenF
  dsimp only
  unfold onSeq seqOf
  dsimp only
  rw [h]
def dL (a b c : Int) : O := .lst [.int a, .int b, .int c]
theorem put_put {m : Mem} {k : Nat} {o o' : O} : (m.put k o).put k o' = m.put k o' := by
  show (⟨m.nx, repl k o' (repl k o m.ob)⟩ : Mem) = ⟨m.nx, repl k o' m.ob⟩
  generalize m.ob = l
  congr 1
  induction l with
  | nil => rfl
  | cons p l ih =>
    obtain ⟨j, u⟩ := p
    show repl k o' (match Nat.beq k j with | true => (j, o) :: l | false => (j, u) :: repl k o l) = (match Nat.beq k j with | true => (j, o') :: l | false => (j, u) :: repl k o' l)
    cases e : Nat.beq k j with
    | true =>
      show (match Nat.beq k j with | true => (j, o') :: l | false => _) = _
      rw [e]
    | false =>
      show (match Nat.beq k j with | true => _ | false => (j, u) :: repl k o' (repl k o l)) = _
      rw [e]
      dsimp only
      rw [ih]
section
variable {m : Mem} {k : Nat} {a b c : Int}
theorem lst_dL (h : m.get k = some (dL a b c)) : m.lst k = some [.int a, .int b, .int c] := by
  unfold Mem.lst
  rw [h] <;> rfl
theorem ixd0 (h : m.get k = some (dL a b c)) : ixF (.ref k) (.int 0) m = .ok (.int a) m := by
  show (match m.lst k with | some ds => opt (L2.atI ds 0) m | none => .bad) = _
  rw [lst_dL h] <;> rfl
theorem ixd1 (h : m.get k = some (dL a b c)) : ixF (.ref k) (.int 1) m = .ok (.int b) m := by
  show (match m.lst k with | some ds => opt (L2.atI ds 1) m | none => .bad) = _
  rw [lst_dL h] <;> rfl
theorem ixd2 (h : m.get k = some (dL a b c)) : ixF (.ref k) (.int 2) m = .ok (.int c) m := by
  show (match m.lst k with | some ds => opt (L2.atI ds 2) m | none => .bad) = _
  rw [lst_dL h] <;> rfl
theorem setd0 {v : Int} (h : m.get k = some (dL a b c)) : setItemF (.ref k) (.int 0) (.int v) m = .ok () (m.put k (dL v b c)) := by
  show (match m.get k with | some (.lst ds) => (match L2.ixN ds.length 0 with | some j => Out.ok () (m.put k (.lst (ds.set j (.int v)))) | none => .bad) | _ => .bad) = _
  rw [h] <;> rfl
theorem setd2 {v : Int} (h : m.get k = some (dL a b c)) : setItemF (.ref k) (.int 2) (.int v) m = .ok () (m.put k (dL a b v)) := by
  show (match m.get k with | some (.lst ds) => (match L2.ixN ds.length 2 with | some j => Out.ok () (m.put k (.lst (ds.set j (.int v)))) | none => .bad) | _ => .bad) = _
  rw [h] <;> rfl
theorem atI_in {xs : List D} {r : Int} (h0 : 0 ≤ r) (h1 : r < xs.length) : ∃ x ∈ xs, L2.atI xs r = some x := by
  have h2 : r.toNat < xs.length := by omega
  refine ⟨xs[r.toNat], List.getElem_mem h2, ?_⟩
  unfold L2.atI L2.ixN
  rw [if_pos h0, if_pos h1]
  show xs[r.toNat]? = _
  rw [List.getElem?_eq_getElem h2]
theorem lst_put_ne {m : Mem} {k j : Nat} {o : O} (h : j ≠ k) : (m.put k o).lst j = m.lst j := by
  unfold Mem.lst
  rw [get_put_ne h]
end
def low1 (n : Nat) : Option D → Bool
  | some d => lowD n d
  | none => true
theorem lowAll_cons {n : Nat} {o : Option D} {r : Rho} : lowAll n (o :: r) = (low1 n o && lowAll n r) := by
  cases o with
  | none => rfl
  | some d =>
    show (match lowD n d with | true => lowAll n r | false => false) = (lowD n d && lowAll n r)
    cases lowD n d <;> rfl
theorem all_of {α : Type} {p : α → Bool} {l : List α} (h : l.all p = true) : ∀ x ∈ l, p x = true := List.all_eq_true.mp h
theorem chk_c {V : Fns} {op : COp} {x y : E} {ρ : Rho} {m : Mem} {s : Str} (h : (den V x).e ρ m = .ok (.str s) m) : testM (den V (.cmp op x y)).e ρ m = testM (den V (.cmp op (.const (.str s)) y)).e ρ m := by
  show (((den V x).e ρ m).bind _).bind truth = _
  rw [h] <;> rfl
theorem met_ok {V : Fns} {k : Nat} {hs : List Hd} {d v : D} {x : E} {ρ : Rho} {m m' : Mem} (h : (den V.low x).e ρ m = .ok v m') : (den V (.met k hs d x)).e ρ m = .ok d m' := by
  show (match (den V.low x).e ρ m with | .ok _ m' => Out.ok d m' | .exc x m' => _ | .bad => .bad) = _
  rw [h]
theorem mem_rng {lo r : Int} {k : Nat} (h0 : lo ≤ r) (h1 : r < lo + k) : D.int r ∈ iota lo k := by
  induction k generalizing lo with
  | zero => omega
  | succ k ih =>
    by_cases e : r = lo
    · subst e; exact List.mem_cons_self ..
    · exact List.mem_cons_of_mem _ (ih (by omega) (by omega))
theorem chk_seq {V : Fns} {x : E} {s y : S} {ρ : Rho} {m : Mem} {o : O} (w : WF m) (hl : lowAll m.nx ρ = true) (h : testM (den V x).e ρ m = .ok false (m.new o)) : denS V (.seq (.iff x s .skip) y) ρ m = denS V y ρ m := by
  rw [seq_nx ((iff_f h).trans skip_nx), tdS_new w hl]
theorem for_calls {vs : List Nat} {V : Fns} {body : S} {i : Nat} {m : Mem} (f : Option D → Rho) (hf : ∀ o d, (f o).set i (some d) = f (some d)) : ∀ (ks : List Nat) (o : Option D), (∀ k ∈ ks, denS V body (f (some (.fn k))) m = .nx (f (some (.fn k))) m) →
    ∃ o', (o' = o ∨ ∃ k, o' = some (.fn k)) ∧ forL vs (fun d ρ m => noX ((den V (.tnm i)).t d ρ m)) (fun ρ m => denS V body ρ m) (ks.map D.fn) (f o) m = .nx (f o') m
  | [], o, _ => ⟨o, .inl rfl, rfl⟩
  | k :: ks, o, h => by
    obtain ⟨o', ho, e⟩ := for_calls f hf ks (some (.fn k)) fun j hj => h j (List.mem_cons_of_mem _ hj)
    refine ⟨o', .inr (ho.elim (fun h => ⟨k, h⟩) id), ?_⟩
    rw [List.map_cons, forL_go]
    show (match denS V body ((f o).set i (some (.fn k))) m with
      | .nx ρ' m' => forL vs _ _ (ks.map D.fn) (tdL m.nx vs ρ' m').1 (tdL m.nx vs ρ' m').2
      | .cnt ρ' m' => forL vs _ _ (ks.map D.fn) (tdL m.nx vs ρ' m').1 (tdL m.nx vs ρ' m').2
      | .brk ρ' m' => .nx ρ' m'
      | .ret d m' => .ret d m'
      | .exc x ρ' m' => .exc x ρ' m'
      | .bad => .bad) = _
    rw [hf, h k (List.mem_cons_self ..)]
    dsimp only
    rw [tdL_same]
    exact e
theorem for_items {V : Fns} {t it : E} {b : S} {ρ : Rho} {m m1 : Mem} {ds : List D} (h : (den V it).s ρ m = .ok (.items ds) m1) : denS V (.forr t it b) ρ m = forL (leadS b) (fun d ρ m => noX ((den V t).t d ρ m)) (fun ρ m => denS V b ρ m) ds ρ m1 := by
  show ((den V it).s ρ m).st ρ (fun s m1 => onSrcS s (fun ds => forL (leadS b) (fun d ρ m => noX ((den V t).t d ρ m)) (fun ρ m => denS V b ρ m) ds ρ) m1) = _
  rw [h]
  rfl
theorem call_at {T : Nat → Option Fn} {n k : Nat} {es : E} {ρ : Rho} {m m1 : Mem} {ds : List D} {o : Out D} (h : (den (Lv T n) es).e ρ m = .ok (.tup ds) m1) (h2 : run T (n + 2) k ds m1 = o) : (den (Lv T n) (.call k es)).e ρ m = o := (call_of h).trans h2
theorem ix_of {V : Fns} {x y : E} {ρ : Rho} {m m1 m2 m3 : Mem} {d e f : D} (h : (den V x).e ρ m = .ok d m1) (h2 : (den V y).e ρ m1 = .ok e m2) (h3 : ixF d e m2 = .ok f m3) : (den V (.ix x y)).e ρ m = .ok f m3 := by
  show ((den V x).e ρ m).bind (fun x m1 => ((den V y).e ρ m1).bind fun y m2 => ixF x y m2) = _
  rw [h]
  show ((den V y).e ρ m1).bind _ = _
  rw [h2]
  exact h3
theorem cmp_of {V : Fns} {op : COp} {x y : E} {ρ : Rho} {m m1 m2 m3 : Mem} {d e f : D} (h : (den V x).e ρ m = .ok d m1) (h2 : (den V y).e ρ m1 = .ok e m2) (h3 : cmpM op d e m2 = .ok f m3) : (den V (.cmp op x y)).e ρ m = .ok f m3 := by
  show ((den V x).e ρ m).bind (fun x m1 => ((den V y).e ρ m1).bind fun y m2 => cmpM op x y m2) = _
  rw [h]
  show ((den V y).e ρ m1).bind _ = _
  rw [h2]
  exact h3
theorem band_t {V : Fns} {x y : E} {ρ : Rho} {m m1 m2 : Mem} {d : D} (h : (den V x).e ρ m = .ok (.bl true) m1) (h2 : (den V y).e ρ m1 = .ok d m2) : (den V (.band x y)).e ρ m = .ok d m2 := by
  show ((den V x).e ρ m).bind _ = _
  rw [h]
  exact h2
theorem cmp_bl {V : Fns} {op : COp} {x y : E} {ρ : Rho} {m m1 : Mem} {t : Bool} (h : testM (den V (.cmp op x y)).e ρ m = .ok t m1) : (den V (.cmp op x y)).e ρ m = .ok (.bl t) m1 := by
  have h : ((den V (.cmp op x y)).e ρ m).bind truth = .ok t m1 := h
  cases e : (den V (.cmp op x y)).e ρ m with
  | ok d m2 =>
    rw [e] at h
    cases d <;> cases h
    rfl
  | exc x m2 => rw [e] at h; cases h
  | bad => rw [e] at h; cases h
/-- what is told of a count -/
def cnt (x : D) : Str := match toPy ⟨0, []⟩ 9 x with | some y => "count " ++ y.shown | none => ""
def pr (x : D) (t : Bool) : D := .tup [.str (cnt x), .bl t]
end Ev

set_option Elab.async false
set_option linter.all false
set_option maxRecDepth 100000
set_option maxHeartbeats 4000000
namespace Ev
open PySem L2
/-! ## a def that draws with dice: all that may come, statement by statement -/
/-! ### equality of data, said by a Bool -/
mutual
def beqD : D → D → Bool
  | .non, .non => true
  | .bl a, .bl b => a == b
  | .int a, .int b => decide (a = b)
  | .str a, .str b => decide (a = b)
  | .tup a, .tup b => beqDs a b
  | .ref a, .ref b => Nat.beq a b
  | .fn a, .fn b => Nat.beq a b
  | .ty a, .ty b => decide (a = b)
  | .emp, .emp => true
  | .opq, .opq => true
  | .cls a, .cls b => Nat.beq a b
  | _, _ => false
def beqDs : List D → List D → Bool
  | [], [] => true
  | a :: r, b :: s => (match beqD a b with | true => beqDs r s | false => false)
  | _, _ => false
end
mutual
theorem beqD_ok : ∀ {a b : D}, beqD a b = true → a = b
  | .non, b, h => by cases b <;> first | rfl | cases h
  | .emp, b, h => by cases b <;> first | rfl | cases h
  | .opq, b, h => by cases b <;> first | rfl | cases h
  | .bl x, b, h => by
    cases b with
    | bl y => exact congrArg D.bl (eq_of_beq h)
    | _ => cases h
  | .int x, b, h => by
    cases b with
    | int y => exact congrArg D.int (of_decide_eq_true h)
    | _ => cases h
  | .str x, b, h => by
    cases b with
    | str y => exact congrArg D.str (of_decide_eq_true h)
    | _ => cases h
  | .tup x, b, h => by
    cases b with
    | tup y => exact congrArg D.tup (beqDs_ok h)
    | _ => cases h
  | .ref x, b, h => by
    cases b with
    | ref y => exact congrArg D.ref (Nat.eq_of_beq_eq_true h)
    | _ => cases h
  | .fn x, b, h => by
    cases b with
    | fn y => exact congrArg D.fn (Nat.eq_of_beq_eq_true h)
    | _ => cases h
  | .ty x, b, h => by
    cases b with
    | ty y => exact congrArg D.ty (of_decide_eq_true h)
    | _ => cases h
  | .cls x, b, h => by
    cases b with
    | cls y => exact congrArg D.cls (Nat.eq_of_beq_eq_true h)
    | _ => cases h
  | .ins k x, b, h => by cases b <;> cases h
theorem beqDs_ok : ∀ {a b : List D}, beqDs a b = true → a = b
  | [], [], _ => rfl
  | [], _ :: _, h => by cases h
  | _ :: _, [], h => by cases h
  | x :: r, y :: s, h => by
    have h : (match beqD x y with | true => beqDs r s | false => false) = true := h
    cases e : beqD x y with
    | true => rw [e] at h; rw [beqD_ok e, beqDs_ok h]
    | false => rw [e] at h; cases h
end
def beqR : Rho → Rho → Bool
  | [], [] => true
  | none :: r, none :: s => beqR r s
  | some a :: r, some b :: s => (match beqD a b with | true => beqR r s | false => false)
  | _, _ => false
theorem beqR_ok : ∀ {a b : Rho}, beqR a b = true → a = b
  | [], [], _ => rfl
  | [], _ :: _, h => by cases h
  | x :: _, [], h => by cases x <;> cases h
  | none :: r, none :: s, h => by rw [beqR_ok (a := r) (b := s) h]
  | some x :: r, none :: s, h => by cases h
  | none :: r, some y :: s, h => by cases h
  | some x :: r, some y :: s, h => by
    have h : (match beqD x y with | true => beqR r s | false => false) = true := h
    cases e : beqD x y with
    | true => rw [e] at h; rw [beqD_ok e, beqR_ok (a := r) (b := s) h]
    | false => rw [e] at h; cases h
def beqO : O → O → Bool
  | .lst a, .lst b => beqDs a b
  | .rol a, .rol b => beqDs a b
  | .kol a, .kol b => beqDs a b
  | .ins k a, .ins j b => (match Nat.beq k j with | true => beqR a b | false => false)
  | _, _ => false
theorem beqO_ok {a b : O} (h : beqO a b = true) : a = b := by
  cases a <;> cases b <;> first | cases h; done | skip
  · exact congrArg O.lst (beqDs_ok h)
  · exact congrArg O.rol (beqDs_ok h)
  · exact congrArg O.kol (beqDs_ok h)
  · rename_i k a j b
    have h : (match Nat.beq k j with | true => beqR a b | false => false) = true := h
    cases e : Nat.beq k j with
    | true => rw [e] at h; rw [Nat.eq_of_beq_eq_true e, beqR_ok h]
    | false => rw [e] at h; cases h
def beqB : List (Nat × O) → List (Nat × O) → Bool
  | [], [] => true
  | (k, a) :: r, (j, b) :: s => (match Nat.beq k j with | true => (match beqO a b with | true => beqB r s | false => false) | false => false)
  | _, _ => false
theorem beqB_ok : ∀ {a b : List (Nat × O)}, beqB a b = true → a = b
  | [], [], _ => rfl
  | [], _ :: _, h => by cases h
  | _ :: _, [], h => by cases h
  | (k, a) :: r, (j, b) :: s, h => by
    have h : (match Nat.beq k j with | true => (match beqO a b with | true => beqB r s | false => false) | false => false) = true := h
    cases e : Nat.beq k j with
    | true =>
      rw [e] at h
      dsimp only at h
      cases e2 : beqO a b with
      | true => rw [e2] at h; rw [Nat.eq_of_beq_eq_true e, beqO_ok e2, beqB_ok h]
      | false => rw [e2] at h; cases h
    | false => rw [e] at h; cases h
/-! ### states: what stands above the script and the dice -/
structure St where
  ρ : Rho
  nx : Nat
  ob : List (Nat × O)
def beqSt (s t : St) : Bool := match beqR s.ρ t.ρ with
  | true => (match Nat.beq s.nx t.nx with | true => beqB s.ob t.ob | false => false)
  | false => false
theorem beqSt_ok {s t : St} (h : beqSt s t = true) : s = t := by
  unfold beqSt at h
  cases e : beqR s.ρ t.ρ with
  | false => rw [e] at h; cases h
  | true =>
    rw [e] at h
    dsimp only at h
    cases e2 : Nat.beq s.nx t.nx with
    | false => rw [e2] at h; cases h
    | true =>
      rw [e2] at h
      obtain ⟨a, b, c⟩ := s
      obtain ⟨a', b', c'⟩ := t
      have h1 := beqR_ok e
      have h2 := Nat.eq_of_beq_eq_true e2
      have h3 := beqB_ok h
      dsimp only at h1 h2 h3
      rw [h1, h2, h3]
abbrev Tri := Int × Int × Int
abbrev Dv := Nat → Tri
def dLt (t : Tri) : O := dL t.1 t.2.1 t.2.2
def MDt (ns : List Int) (t : Tri) : Mem := ⟨2, [(1, dLt t), (0, .scr ns)]⟩
def St.mem (s : St) (ns : List Int) (t : Tri) : Mem := ⟨s.nx, s.ob ++ [(1, dLt t), (0, .scr ns)]⟩
/-! ### draws -/
inductive Draw where
  | det | one (i j : Nat) (R W : E) | onep (i j : Nat) (R W : E) | pick (i : Nat) (W : E) | roll (i : Nat) (t : Int)
def drawOf (kr kp ko : Nat) : S → Draw
  | .asg (.ttup (.tcons (.tnm i) (.tcons (.tnm j) .tnil))) (.call q (.cons (.var 0) (.cons R (.cons W .nil)))) => (match Nat.beq q ko with
    | true => (match R with
      | .call p (.cons (.var 0) (.cons R' .nil)) => (match Nat.beq p kp with
        | true => .onep i j R' W
        | false => .one i j R W)
      | R => .one i j R W)
    | false => .det)
  | .asg (.tnm i) (.call q (.cons (.var 0) (.cons W .nil))) => (match Nat.beq q kp with
    | true => .pick i W
    | false => (match Nat.beq q kr with
      | true => (match W with
        | .const (.int t) => .roll i t
        | _ => .det)
      | false => .det))
  | _ => .det
/-- which statement a draw is -/
def Draw.of (kr kp ko : Nat) : Draw → S → Prop
  | .det, _ => True
  | .one i j R W, s => s = .asg (.ttup (.tcons (.tnm i) (.tcons (.tnm j) .tnil))) (.call ko (.cons (.var 0) (.cons R (.cons W .nil))))
  | .onep i j R W, s => s = .asg (.ttup (.tcons (.tnm i) (.tcons (.tnm j) .tnil))) (.call ko (.cons (.var 0) (.cons (.call kp (.cons (.var 0) (.cons R .nil))) (.cons W .nil))))
  | .pick i W, s => s = .asg (.tnm i) (.call kp (.cons (.var 0) (.cons W .nil)))
  | .roll i t, s => s = .asg (.tnm i) (.call kr (.cons (.var 0) (.cons (.const (.int t)) .nil)))
theorem drawOf_ok (kr kp ko : Nat) (s : S) : (drawOf kr kp ko s).of kr kp ko s := by
  unfold drawOf
  split
  · rename_i i j q R W
    cases e : Nat.beq q ko with
    | false => exact True.intro
    | true =>
      have := Nat.eq_of_beq_eq_true e
      subst this
      dsimp only
      split
      · rename_i p R'
        cases e2 : Nat.beq p kp with
        | false => exact rfl
        | true =>
          have := Nat.eq_of_beq_eq_true e2
          subst this
          exact rfl
      · exact rfl
  · rename_i i q W
    cases e : Nat.beq q kp with
    | true =>
      have := Nat.eq_of_beq_eq_true e
      subst this
      exact rfl
    | false =>
      dsimp only
      cases e2 : Nat.beq q kr with
      | false => exact True.intro
      | true =>
        have := Nat.eq_of_beq_eq_true e2
        subst this
        dsimp only
        split
        · exact rfl
        · exact True.intro
  · exact True.intro
def isDL : Option O → Bool
  | some (.lst [.int _, .int _, .int _]) => true
  | _ => false
theorem isDL_ok {o : Option O} (h : isDL o = true) : ∃ a b c, o = some (dL a b c) := by
  unfold isDL at h
  split at h
  · exact ⟨_, _, _, rfl⟩
  · cases h
def okL (m : Mem) (w : Nat) : Option (List D) := match Nat.beq w 1 with
  | true => none
  | false => (match m.lst w with
    | some xs => (match Nat.blt 0 xs.length && Nat.ble xs.length 1000 && isDL (m.get 1) with | true => some xs | false => none)
    | none => none)
theorem okL_ok {m : Mem} {w : Nat} {xs : List D} (h : okL m w = some xs) : w ≠ 1 ∧ m.lst w = some xs ∧ 0 < xs.length ∧ xs.length ≤ 1000 ∧ ∃ a b c, m.get 1 = some (dL a b c) := by
  unfold okL at h
  cases e : Nat.beq w 1 with
  | true => rw [e] at h; cases h
  | false =>
    rw [e] at h
    dsimp only at h
    cases e2 : m.lst w with
    | none => rw [e2] at h; cases h
    | some ys =>
      rw [e2] at h
      dsimp only at h
      cases e3 : Nat.blt 0 ys.length && Nat.ble ys.length 1000 && isDL (m.get 1) with
      | false => rw [e3] at h; cases h
      | true =>
        rw [e3] at h
        cases h
        simp only [Bool.and_eq_true] at e3
        exact ⟨(fun z => by rw [z] at e; cases e), rfl, Nat.le_of_ble_eq_true e3.1.1, Nat.le_of_ble_eq_true e3.1.2, isDL_ok e3.2⟩
def is0 (ρ : Rho) : Bool := match getR ρ 0 with
  | some (.ref n) => Nat.beq n 1
  | _ => false
theorem is0_ok {ρ : Rho} (h : is0 ρ = true) : getR ρ 0 = some (.ref 1) := by
  unfold is0 at h
  split at h
  · rename_i n e
    rw [e, Nat.eq_of_beq_eq_true h]
  · cases h
def lstOf (V : Fns) (W : E) (ρ : Rho) (m : Mem) : Option (List D × Nat × Mem) := match (den V W).e ρ m with
  | .ok (.ref w) m1 => (match okL m1 w with | some xs => some (xs, w, m1) | none => none)
  | _ => none
theorem lstOf_ok {V : Fns} {W : E} {ρ : Rho} {m m1 : Mem} {xs : List D} {w : Nat} (h : lstOf V W ρ m = some (xs, w, m1)) : (den V W).e ρ m = .ok (.ref w) m1 ∧ okL m1 w = some xs := by
  unfold lstOf at h
  split at h
  · rename_i w' m' e
    cases e2 : okL m' w' with
    | none => rw [e2] at h; cases h
    | some ys => rw [e2] at h; cases h; exact ⟨e, e2⟩
  · cases h
def two1 (ρ : Rho) (i j : Nat) (p : D × Bool) : Rho := (ρ.set i (some p.1)).set j (some (.bl p.2))
/-- what may come of a draw: the slots, the store, how many dice there have been -/
def drawRes (V : Fns) (ρ : Rho) (m : Mem) (dv : Dv) (k : Nat) : Draw → Option (List Rho × Mem × Nat)
  | .det => none
  | .one i j R W => (match (den V R).e ρ m with
    | .ok v m1 => (match lstOf V W ρ m1 with
      | some (xs, _, m2) => some (((v, false) :: xs.map fun x => (x, true)).map (two1 ρ i j), m2.put 1 (dLt (dv (k + 1))), k + 1)
      | none => none)
    | _ => none)
  | .onep i j R W => (match lstOf V R ρ m with
    | some (rs, _, m1) => (match lstOf V W ρ (m1.put 1 (dLt (dv (k + 1)))) with
      | some (xs, _, m2) => some (((rs.map fun x => (x, false)) ++ xs.map fun x => (x, true)).map (two1 ρ i j), m2.put 1 (dLt (dv (k + 2))), k + 2)
      | none => none)
    | none => none)
  | .pick i W => (match lstOf V W ρ m with
    | some (xs, _, m1) => some (xs.map fun x => ρ.set i (some x), m1.put 1 (dLt (dv (k + 1))), k + 1)
    | none => none)
  | .roll i t => (match decide (0 < t) && decide (t ≤ 1000000) && isDL (m.get 1) with
    | true => some ((iota 0 t.toNat).map fun x => ρ.set i (some x), m.put 1 (dLt (dv (k + 1))), k + 1)
    | false => none)
/-- the dice's defs -/
structure Dice (V : Fns) (kr kp ko : Nat) : Prop where
  roll : ∀ (m : Mem) (a b c t : Int), m.get 1 = some (dL a b c) → 0 < t → t ≤ 1000000 → ∃ r a' b' c', (0 ≤ r ∧ r < t) ∧ V.F kr [.ref 1, .int t] m = .ok (.int r) (m.put 1 (dL a' b' c'))
  pick : ∀ (m : Mem) (a b c : Int) (w : Nat) (xs : List D), m.get 1 = some (dL a b c) → w ≠ 1 → m.lst w = some xs → 0 < xs.length → xs.length ≤ 1000 → ∃ x a' b' c', x ∈ xs ∧ V.F kp [.ref 1, .ref w] m = .ok x (m.put 1 (dL a' b' c'))
  one : ∀ (m : Mem) (a b c : Int) (v : D) (w : Nat) (xs : List D), m.get 1 = some (dL a b c) → w ≠ 1 → m.lst w = some xs → 0 < xs.length → xs.length ≤ 1000 →
    ∃ x t a' b' c', ((t = false ∧ x = v) ∨ (t = true ∧ x ∈ xs)) ∧ V.F ko [.ref 1, v, .ref w] m = .ok (.tup [x, .bl t]) (m.put 1 (dL a' b' c'))
def updV (dv : Dv) (k : Nat) (t : Tri) : Dv := fun j => if j = k then t else dv j
theorem updV_same {dv : Dv} {k : Nat} {t : Tri} : updV dv k t k = t := if_pos rfl
theorem updV_lt {dv : Dv} {k j : Nat} {t : Tri} (h : j < k) : updV dv k t j = dv j := if_neg (Nat.ne_of_lt h)
section
variable {V : Fns} {kr kp ko : Nat} {ρ : Rho} {m : Mem}
theorem den_cons {x y : E} {d : D} {ds : List D} {m1 m2 : Mem} (h : (den V x).e ρ m = .ok d m1) (h2 : (den V y).e ρ m1 = .ok (.tup ds) m2) : (den V (.cons x y)).e ρ m = .ok (.tup (d :: ds)) m2 := by
  show consM (den V x).e (den V y).e ρ m = _
  unfold consM
  rw [h]
  show ((den V y).e ρ m1).bind _ = _
  rw [h2] <;> rfl
theorem den_v0 {d : D} (h0 : getR ρ 0 = some d) : (den V (.var 0)).e ρ m = .ok d m := by
  show opt (getR ρ 0) m = _
  rw [h0] <;> rfl
theorem den_call2 {q : Nat} {W : E} {d : D} {m1 : Mem} (h0 : getR ρ 0 = some (.ref 1)) (hW : (den V W).e ρ m = .ok d m1) : (den V (.call q (.cons (.var 0) (.cons W .nil)))).e ρ m = V.F q [.ref 1, d] m1 :=
  call_of (den_cons (den_v0 h0) (den_cons hW rfl))
theorem den_call3 {q : Nat} {R W : E} {v d : D} {m1 m2 : Mem} (h0 : getR ρ 0 = some (.ref 1)) (hR : (den V R).e ρ m = .ok v m1) (hW : (den V W).e ρ m1 = .ok d m2) : (den V (.call q (.cons (.var 0) (.cons R (.cons W .nil))))).e ρ m = V.F q [.ref 1, v, d] m2 :=
  call_of (den_cons (den_v0 h0) (den_cons hR (den_cons hW rfl)))
theorem asg_nm {i : Nat} {e : E} {d : D} {m1 : Mem} (h : (den V e).e ρ m = .ok d m1) : denS V (.asg (.tnm i) e) ρ m = .nx (ρ.set i (some d)) m1 := by
  show ((den V e).e ρ m).st ρ _ = _
  rw [h] <;> rfl
theorem asg_two {i j : Nat} {e : E} {x : D} {t : Bool} {m1 : Mem} (h : (den V e).e ρ m = .ok (.tup [x, .bl t]) m1) : denS V (.asg (.ttup (.tcons (.tnm i) (.tcons (.tnm j) .tnil))) e) ρ m = .nx (two1 ρ i j (x, t)) m1 := by
  show ((den V e).e ρ m).st ρ _ = _
  rw [h] <;> rfl
theorem draw_ok (X : Dice V kr kp ko) (h0 : getR ρ 0 = some (.ref 1)) {a : S} {d : Draw} (hd : d.of kr kp ko a) (dv : Dv) (k : Nat) :
    ∃ dv' : Dv, (∀ j, j ≤ k → dv' j = dv j) ∧ ∀ rs m' k', drawRes V ρ m dv' k d = some (rs, m', k') → k ≤ k' ∧ (∀ dv'' : Dv, (∀ j, j ≤ k' → dv'' j = dv' j) → drawRes V ρ m dv'' k d = some (rs, m', k')) ∧ ∃ ρ' ∈ rs, denS V a ρ m = .nx ρ' m' := by
  cases d with
  | det => exact ⟨dv, fun _ _ => rfl, fun rs m' k' h => by cases h⟩
  | one i j R W =>
    have hd : a = _ := hd
    subst hd
    cases e1 : (den V R).e ρ m with
    | ok v m1 =>
      cases e2 : lstOf V W ρ m1 with
      | none => exact ⟨dv, fun _ _ => rfl, fun rs m' k' h => by unfold drawRes at h; dsimp only at h; rw [e1] at h; dsimp only at h; rw [e2] at h; cases h⟩
      | some q =>
        obtain ⟨xs, w, m2⟩ := q
        obtain ⟨e3, e4⟩ := lstOf_ok e2
        obtain ⟨hw, hl, h1, h2, a0, b0, c0, hdl⟩ := okL_ok e4
        obtain ⟨x, t, a', b', c', hx, e5⟩ := X.one m2 a0 b0 c0 v w xs hdl hw hl h1 h2
        refine ⟨updV dv (k + 1) (a', b', c'), fun j hj => updV_lt (by omega), fun rs m' k' h => ?_⟩
        unfold drawRes at h
        dsimp only at h
        rw [e1] at h
        dsimp only at h
        rw [e2] at h
        cases h
        refine ⟨by omega, fun dv'' hv => ?_, two1 ρ i j (x, t), ?_, ?_⟩
        · unfold drawRes
          dsimp only
          rw [e1]
          dsimp only
          rw [e2]
          dsimp only
          rw [hv (k + 1) (Nat.le_refl _)]
        · refine List.mem_map.mpr ⟨(x, t), ?_, rfl⟩
          rcases hx with ⟨rfl, rfl⟩ | ⟨rfl, hx⟩
          · exact List.mem_cons_self ..
          · exact List.mem_cons_of_mem _ (List.mem_map.mpr ⟨_, hx, rfl⟩)
        · rw [updV_same]
          exact asg_two ((den_call3 h0 e1 e3).trans e5)
    | exc x m1 => exact ⟨dv, fun _ _ => rfl, fun rs m' k' h => by unfold drawRes at h; dsimp only at h; rw [e1] at h; cases h⟩
    | bad => exact ⟨dv, fun _ _ => rfl, fun rs m' k' h => by unfold drawRes at h; dsimp only at h; rw [e1] at h; cases h⟩
  | onep i j R W =>
    have hd : a = _ := hd
    subst hd
    cases e1 : lstOf V R ρ m with
    | none => exact ⟨dv, fun _ _ => rfl, fun rs m' k' h => by unfold drawRes at h; dsimp only at h; rw [e1] at h; cases h⟩
    | some q =>
      obtain ⟨ys, w1, m1⟩ := q
      obtain ⟨f3, f4⟩ := lstOf_ok e1
      obtain ⟨fw, fl, f1, f2, a1, b1, c1, fdl⟩ := okL_ok f4
      obtain ⟨v, a2, b2, c2, hv, f5⟩ := X.pick m1 a1 b1 c1 w1 ys fdl fw fl f1 f2
      have eR := (den_call2 (q := kp) h0 f3).trans f5
      cases e2 : lstOf V W ρ (m1.put 1 (dLt (a2, b2, c2))) with
      | none =>
        refine ⟨updV dv (k + 1) (a2, b2, c2), fun j hj => updV_lt (by omega), fun rs m' k' h => ?_⟩
        unfold drawRes at h
        dsimp only at h
        rw [e1] at h
        dsimp only at h
        rw [updV_same, e2] at h
        cases h
      | some q =>
        obtain ⟨xs, w, m2⟩ := q
        obtain ⟨e3, e4⟩ := lstOf_ok e2
        obtain ⟨hw, hl, h1, h2, a0, b0, c0, hdl⟩ := okL_ok e4
        obtain ⟨x, t, a', b', c', hx, e5⟩ := X.one m2 a0 b0 c0 v w xs hdl hw hl h1 h2
        refine ⟨updV (updV dv (k + 1) (a2, b2, c2)) (k + 2) (a', b', c'), fun j hj => (updV_lt (by omega)).trans (updV_lt (by omega)), fun rs m' k' h => ?_⟩
        have u1 : updV (updV dv (k + 1) (a2, b2, c2)) (k + 2) (a', b', c') (k + 1) = (a2, b2, c2) := (updV_lt (by omega)).trans updV_same
        unfold drawRes at h
        dsimp only at h
        rw [e1] at h
        dsimp only at h
        rw [u1, e2] at h
        cases h
        refine ⟨by omega, fun dv'' hv => ?_, two1 ρ i j (x, t), ?_, ?_⟩
        · unfold drawRes
          dsimp only
          rw [e1]
          dsimp only
          rw [hv (k + 1) (by omega), u1, e2]
          dsimp only
          rw [hv (k + 2) (Nat.le_refl _)]
        · refine List.mem_map.mpr ⟨(x, t), ?_, rfl⟩
          rcases hx with ⟨rfl, rfl⟩ | ⟨rfl, hx⟩
          · exact List.mem_append_left _ (List.mem_map.mpr ⟨_, hv, rfl⟩)
          · exact List.mem_append_right _ (List.mem_map.mpr ⟨_, hx, rfl⟩)
        · rw [updV_same]
          exact asg_two ((den_call3 h0 eR e3).trans e5)
  | pick i W =>
    have hd : a = _ := hd
    subst hd
    cases e2 : lstOf V W ρ m with
    | none => exact ⟨dv, fun _ _ => rfl, fun rs m' k' h => by unfold drawRes at h; dsimp only at h; rw [e2] at h; cases h⟩
    | some q =>
      obtain ⟨xs, w, m2⟩ := q
      obtain ⟨e3, e4⟩ := lstOf_ok e2
      obtain ⟨hw, hl, h1, h2, a0, b0, c0, hdl⟩ := okL_ok e4
      obtain ⟨x, a', b', c', hx, e5⟩ := X.pick m2 a0 b0 c0 w xs hdl hw hl h1 h2
      refine ⟨updV dv (k + 1) (a', b', c'), fun j hj => updV_lt (by omega), fun rs m' k' h => ?_⟩
      unfold drawRes at h
      dsimp only at h
      rw [e2] at h
      cases h
      refine ⟨by omega, fun dv'' hv => ?_, ρ.set i (some x), List.mem_map.mpr ⟨x, hx, rfl⟩, ?_⟩
      · unfold drawRes
        dsimp only
        rw [e2]
        dsimp only
        rw [hv (k + 1) (Nat.le_refl _)]
      · rw [updV_same]
        exact asg_nm ((den_call2 h0 e3).trans e5)
  | roll i t =>
    have hd : a = _ := hd
    subst hd
    cases e2 : decide (0 < t) && decide (t ≤ 1000000) && isDL (m.get 1) with
    | false => exact ⟨dv, fun _ _ => rfl, fun rs m' k' h => by unfold drawRes at h; dsimp only at h; rw [e2] at h; cases h⟩
    | true =>
      have e3 := e2
      simp only [Bool.and_eq_true, decide_eq_true_eq] at e3
      obtain ⟨a0, b0, c0, hdl⟩ := isDL_ok e3.2
      obtain ⟨r, a', b', c', hr, e5⟩ := X.roll m a0 b0 c0 t hdl e3.1.1 e3.1.2
      refine ⟨updV dv (k + 1) (a', b', c'), fun j hj => updV_lt (by omega), fun rs m' k' h => ?_⟩
      unfold drawRes at h
      dsimp only at h
      rw [e2] at h
      cases h
      refine ⟨by omega, fun dv'' hv => ?_, ρ.set i (some (.int r)), List.mem_map.mpr ⟨.int r, mem_rng hr.1 (by omega), rfl⟩, ?_⟩
      · unfold drawRes
        dsimp only
        rw [e2]
        dsimp only
        rw [hv (k + 1) (Nat.le_refl _)]
      · rw [updV_same]
        exact asg_nm ((den_call2 (W := .const (.int t)) h0 rfl).trans e5)
end
/-! ### all that may come of some statements -/
inductive Lf where
  | st (ρ : Rho) (m : Mem) (k : Nat) | out (o : Out D) (k : Nat)
section
variable (V : Fns) (n kr kp ko : Nat)
def explore : List (List Nat) → S → Rho → Mem → Dv → Nat → List Lf
  | [], _, ρ, m, _, k => [.st ρ m k]
  | vs :: dr, s, ρ, m, dv, k => (match s with
    | .seq a b => (match drawOf kr kp ko a with
      | .det => (match denS V a ρ m with
        | .nx ρ' m' => explore dr b (wipeR ρ' vs) (tdMin 64 n (wipeR ρ' vs) m') dv k
        | o => [.out (fin n o) k])
      | d => (match is0 ρ with
        | true => (match drawRes V ρ m dv k d with
          | some (rs, m', k') => rs.flatMap fun ρ' => explore dr b (wipeR ρ' vs) (tdMin 64 n (wipeR ρ' vs) m') dv k'
          | none => [.out .bad k])
        | false => [.out .bad k]))
    | _ => [.out .bad k])
def restS : Nat → S → S
  | k + 1, .seq _ b => restS k b
  | _, s => s
end
/-- what a leaf says of the whole -/
def Lf.says (V : Fns) (n : Nat) (dr2 : List (List Nat)) (r : S) (o : Out D) : Lf → Prop
  | .st ρ' m' _ => o = fin n (denTop V n dr2 r ρ' m')
  | .out o' _ => o' = .bad ∨ o = o'
section
variable {V : Fns} {n kr kp ko : Nat}
theorem explore_ok (X : Dice V kr kp ko) (dr2 : List (List Nat)) : ∀ (dr : List (List Nat)) (s : S) (ρ : Rho) (m : Mem) (dv : Dv) (k : Nat),
    ∃ dv' : Dv, (∀ j, j ≤ k → dv' j = dv j) ∧ ∃ l ∈ explore V n kr kp ko dr s ρ m dv' k, l.says V n dr2 (restS dr.length s) (fin n (denTop V n (dr ++ dr2) s ρ m))
  | [], s, ρ, m, dv, k => ⟨dv, fun _ _ => rfl, _, List.mem_cons_self .., rfl⟩
  | vs :: dr, s, ρ, m, dv, k => by
    have bad : ∀ {o : Out D} {r : S} {dv : Dv}, ∃ l ∈ [Lf.out .bad k], l.says V n dr2 r o := fun {o r dv} => ⟨_, List.mem_cons_self .., .inl rfl⟩
    cases s with
    | seq a b =>
      have hof := drawOf_ok kr kp ko a
      by_cases hdet : drawOf kr kp ko a = .det
      · have hx : ∀ dv' : Dv, explore V n kr kp ko (vs :: dr) (.seq a b) ρ m dv' k = (match denS V a ρ m with
          | .nx ρ' m' => explore V n kr kp ko dr b (wipeR ρ' vs) (tdMin 64 n (wipeR ρ' vs) m') dv' k
          | o => [.out (fin n o) k]) := fun dv' => by
          show (match drawOf kr kp ko a with
            | .det => (match denS V a ρ m with
              | .nx ρ' m' => explore V n kr kp ko dr b (wipeR ρ' vs) (tdMin 64 n (wipeR ρ' vs) m') dv' k
              | o => [.out (fin n o) k])
            | d => _) = _
          rw [hdet]
        have hT : denTop V n ((vs :: dr) ++ dr2) (.seq a b) ρ m = (match denS V a ρ m with
          | .nx ρ' m' => denTop V n (dr ++ dr2) b (wipeR ρ' vs) (tdMin 64 n (wipeR ρ' vs) m')
          | o => o) := rfl
        cases e : denS V a ρ m with
        | nx ρ' m' =>
          obtain ⟨dv', h1, l, h2, h3⟩ := explore_ok X dr2 dr b (wipeR ρ' vs) (tdMin 64 n (wipeR ρ' vs) m') dv k
          refine ⟨dv', h1, l, by rw [hx, e]; exact h2, ?_⟩
          rw [hT, e]
          exact h3
        | brk ρ' m' => exact ⟨dv, fun _ _ => rfl, .out (fin n (.brk ρ' m')) k, by rw [hx, e]; exact List.mem_cons_self .., Or.inr (by rw [hT, e])⟩
        | cnt ρ' m' => exact ⟨dv, fun _ _ => rfl, .out (fin n (.cnt ρ' m')) k, by rw [hx, e]; exact List.mem_cons_self .., Or.inr (by rw [hT, e])⟩
        | ret d m' => exact ⟨dv, fun _ _ => rfl, .out (fin n (.ret d m')) k, by rw [hx, e]; exact List.mem_cons_self .., Or.inr (by rw [hT, e])⟩
        | exc x ρ' m' => exact ⟨dv, fun _ _ => rfl, .out (fin n (.exc x ρ' m')) k, by rw [hx, e]; exact List.mem_cons_self .., Or.inr (by rw [hT, e])⟩
        | bad => exact ⟨dv, fun _ _ => rfl, .out (fin n (.bad)) k, by rw [hx, e]; exact List.mem_cons_self .., Or.inr (by rw [hT, e])⟩
      · have hx : ∀ dv' : Dv, explore V n kr kp ko (vs :: dr) (.seq a b) ρ m dv' k = (match is0 ρ with
          | true => (match drawRes V ρ m dv' k (drawOf kr kp ko a) with
            | some (rs, m', k') => rs.flatMap fun ρ' => explore V n kr kp ko dr b (wipeR ρ' vs) (tdMin 64 n (wipeR ρ' vs) m') dv' k'
            | none => [.out .bad k])
          | false => [.out .bad k]) := fun dv' => by
          show (match drawOf kr kp ko a with
            | .det => (match denS V a ρ m with
              | .nx ρ' m' => explore V n kr kp ko dr b (wipeR ρ' vs) (tdMin 64 n (wipeR ρ' vs) m') dv' k
              | o => [.out (fin n o) k])
            | d => (match is0 ρ with
              | true => (match drawRes V ρ m dv' k d with
                | some (rs, m', k') => rs.flatMap fun ρ' => explore V n kr kp ko dr b (wipeR ρ' vs) (tdMin 64 n (wipeR ρ' vs) m') dv' k'
                | none => [.out .bad k])
              | false => [.out .bad k])) = _
          cases e : drawOf kr kp ko a with
          | det => exact absurd e hdet
          | _ => rfl
        cases e0 : is0 ρ with
        | false =>
          refine ⟨dv, fun _ _ => rfl, ?_⟩
          rw [hx, e0]
          exact bad (dv := dv)
        | true =>
          obtain ⟨dv1, h1, h2⟩ := draw_ok X (is0_ok e0) hof dv k
          cases e1 : drawRes V ρ m dv1 k (drawOf kr kp ko a) with
          | none =>
            refine ⟨dv1, h1, ?_⟩
            rw [hx, e0]
            dsimp only
            rw [e1]
            exact bad (dv := dv)
          | some q =>
            obtain ⟨rs, m', k'⟩ := q
            obtain ⟨hk, hs, ρ', hρ, e2⟩ := h2 rs m' k' e1
            obtain ⟨dv2, g1, l, g2, g3⟩ := explore_ok X dr2 dr b (wipeR ρ' vs) (tdMin 64 n (wipeR ρ' vs) m') dv1 k'
            refine ⟨dv2, fun j hj => (g1 j (Nat.le_trans hj hk)).trans (h1 j hj), l, ?_, ?_⟩
            · rw [hx, e0]
              dsimp only
              rw [hs dv2 g1]
              exact List.mem_flatMap.mpr ⟨ρ', hρ, g2⟩
            · have hT : denTop V n ((vs :: dr) ++ dr2) (.seq a b) ρ m = denTop V n (dr ++ dr2) b (wipeR ρ' vs) (tdMin 64 n (wipeR ρ' vs) m') := by
                show (match denS V a ρ m with
                  | .nx ρ' m' => denTop V n (dr ++ dr2) b (wipeR ρ' vs) (tdMin 64 n (wipeR ρ' vs) m')
                  | o => o) = _
                rw [e2]
              rw [hT]
              exact g3
    | _ =>
      refine ⟨dv, fun _ _ => rfl, ?_⟩
      exact bad (dv := dv)
/-- leaves without the dice -/
inductive Lz where
  | st (s : St) (k : Nat) | fin (k : Nat) | bad
def Lz.up (ns : List Int) (dv : Dv) : Lz → Lf
  | .st s k => .st s.ρ (s.mem ns (dv k)) k
  | .fin k => .out (.ok (.bl true) (MDt ns (dv k))) k
  | .bad => .out .bad 0
def Lf.down : Lf → Lz
  | .st ρ m k => .st ⟨ρ, m.nx, m.ob.take (m.ob.length - 2)⟩ k
  | .out (.ok (.bl true) _) k => .fin k
  | .out _ _ => .bad
def zero3 : Tri := (0, 0, 0)
def lv (V : Fns) (kr kp ko : Nat) (dr : List (List Nat)) (s : S) (t : St) : List Lz := (explore V 2 kr kp ko dr s t.ρ (t.mem [] zero3) (fun _ => zero3) 0).map Lf.down
/-- from a state on the def gives True -/
def OkFrom (V : Fns) (dr : List (List Nat)) (s : S) (t : St) : Prop := ∀ (ns : List Int) (d : Tri), ∃ d', fin 2 (denTop V 2 dr s t.ρ (t.mem ns d)) = .ok (.bl true) (MDt ns d')
def leafOk (L' : List St) : Lz → Bool
  | .st s _ => L'.any (beqSt s)
  | .fin _ => true
  | .bad => false
theorem seg (X : Dice V kr kp ko) {dr dr2 : List (List Nat)} {s : S} {L L' : List St}
    (h1 : ∀ (ns : List Int) (dv : Dv), L.map (fun t => explore V 2 kr kp ko dr s t.ρ (t.mem ns (dv 0)) dv 0) = L.map fun t => (lv V kr kp ko dr s t).map (Lz.up ns dv))
    (h2 : (L.all fun t => (lv V kr kp ko dr s t).all (leafOk L')) = true)
    (h3 : ∀ t' ∈ L', OkFrom V dr2 (restS dr.length s) t') : ∀ t ∈ L, OkFrom V (dr ++ dr2) s t := by
  intro t ht ns d
  obtain ⟨dv, e0, l, hl, hs⟩ := explore_ok (n := 2) X dr2 dr s t.ρ (t.mem ns d) (fun _ => d) 0
  have e0 : dv 0 = d := e0 0 (Nat.le_refl _)
  have e1 := List.map_inj_left.mp (h1 ns dv) t ht
  rw [e0] at e1
  rw [e1] at hl
  obtain ⟨z, hz, rfl⟩ := List.mem_map.mp hl
  have e2 := List.all_eq_true.mp (List.all_eq_true.mp h2 t ht) z hz
  cases z with
  | bad => cases e2
  | fin k =>
    rcases hs with hs | hs
    · cases hs
    · exact ⟨dv k, hs⟩
  | st s' k =>
    obtain ⟨t', ht', hb⟩ := List.any_eq_true.mp e2
    have := beqSt_ok hb
    subst this
    obtain ⟨d', e3⟩ := h3 s' ht' ns (dv k)
    exact ⟨d', Eq.trans hs e3⟩
end
end Ev

set_option Elab.async false
set_option linter.all false
set_option maxRecDepth 100000
set_option maxHeartbeats 0
namespace Pf
open PySem L2 Ev
def top (i : Nat) : Stmt := PySem.Challenge.pw_turnseries_k82_errors_of_brackets.main.body.getD i (.Pass ⟨0, 0, 0, 0⟩)
def inner (i j : Nat) : Stmt := match top i with | .ClassDef _ _ _ b _ _ _ _ _ _ _ => b.getD j (.Pass ⟨0, 0, 0, 0⟩) | _ => .Pass ⟨0, 0, 0, 0⟩
def mOf (c x : Str) (i j : Nat) : He.DefD := ⟨(c, some x), x, c ++ "." ++ x, defArgs (inner i j), defBody (inner i j), defScope (inner i j), [], []⟩
def dOf (a x : Str) (i : Nat) : He.DefD := ⟨(a, none), x, x, defArgs (top i), defBody (top i), defScope (top i), [], []⟩
-- is_integer
def e0 : Ent := ⟨dOf "is_integer" "is_integer" 11, ["value"], ["value"], 1, 1, false,
  (.seq (.ret (.band (.blt .isinst (.cons (.var 0) (.cons (.const (.ty .int)) .nil))) (.bnot (.blt .isinst (.cons (.var 0) (.cons (.const (.ty .bool)) .nil)))))) .skip), []⟩
-- is_within
def e1 : Ent := ⟨dOf "is_within" "is_within" 12, ["value", "low", "most"], ["value", "low", "most"], 3, 3, false,
  (.seq (.ret (.band (.call 0 (.cons (.var 0) .nil)) (.chain .le .le (.var 1) (.var 0) (.var 2)))) .skip), []⟩
-- common_of
def e2 : Ent := ⟨dOf "common_of" "common_of" 13, ["one", "other"], ["one", "other"], 2, 2, false,
  (.seq (.par 0 1 (.cons (.blt .abs (.cons (.var 0) .nil)) (.cons (.blt .abs (.cons (.var 1) .nil)) .nil))) (.seq (.whil (.cmp .gt (.var 1) (.const (.int 0))) (.seq (.par 0 1 (.cons (.var 1) (.cons (.bin .mod (.var 0) (.var 1)) .nil))) .skip)) (.seq (.ret (.var 0)) .skip))), []⟩
-- multiple_of
def e3 : Ent := ⟨dOf "multiple_of" "multiple_of" 14, ["one", "other"], ["one", "other"], 2, 2, false,
  (.seq (.ret (.bin .mul (.bin .fdiv (.var 0) (.call 2 (.cons (.var 0) (.cons (.var 1) .nil)))) (.var 1))) .skip), []⟩
-- power_of
def e4 : Ent := ⟨dOf "power_of" "power_of" 15, ["number", "many"], ["number", "many", "found", "square"], 2, 4, false,
  (.seq (.par 2 3 (.cons (.const (.int 1)) (.cons (.var 0) .nil))) (.seq (.whil (.cmp .gt (.var 1) (.const (.int 0))) (.seq (.iff (.cmp .eq (.bin .mod (.var 1) (.const (.int 2))) (.const (.int 1))) (.seq (.asg (.tnm 2) (.bin .mul (.var 2) (.var 3))) .skip) .skip) (.seq (.par 3 1 (.cons (.bin .mul (.var 3) (.var 3)) (.cons (.bin .fdiv (.var 1) (.const (.int 2))) .nil))) .skip))) (.seq (.ret (.var 2)) .skip))), []⟩
-- divisors_in
def e5 : Ent := ⟨dOf "divisors_in" "divisors_in" 16, ["number"], ["number", "low", "high", "part"], 1, 4, false,
  (.seq (.par3 1 2 3 (.cons (.lst .nil) (.cons (.lst .nil) (.cons (.const (.int 1)) .nil)))) (.seq (.whil (.cmp .le (.bin .mul (.var 3) (.var 3)) (.var 0)) (.seq (.iff (.cmp .eq (.bin .mod (.var 0) (.var 3)) (.const (.int 0))) (.seq (.append (.var 1) (.var 3)) (.seq (.iff (.cmp .lt (.bin .mul (.var 3) (.var 3)) (.var 0)) (.seq (.append (.var 2) (.bin .fdiv (.var 0) (.var 3))) .skip) .skip) .skip)) .skip) (.seq (.aug 3 .add (.const (.int 1))) .skip))) (.seq (.ret (.bin .add (.var 1) (.rev (.var 2)))) .skip))), []⟩
-- power_sum_in
def e6 : Ent := ⟨dOf "power_sum_in" "power_sum_in" 17, ["number", "power"], ["number", "power", "part"], 2, 3, false,
  (.seq (.ret (.blt .sum (.cons (.comp [2] (.tnm 2) (.call 5 (.cons (.var 0) .nil)) .yes (.call 4 (.cons (.var 2) (.cons (.var 1) .nil)))) .nil))) .skip), []⟩
-- lowest
def e7 : Ent := ⟨dOf "lowest" "lowest" 18, ["top", "bottom"], ["top", "bottom", "share"], 2, 3, false,
  (.seq (.asg (.tnm 2) (.ite (.cmp .gt (.var 1) (.const (.int 0))) (.call 2 (.cons (.var 0) (.cons (.var 1) .nil))) (.bin .sub (.const (.int 0)) (.call 2 (.cons (.var 0) (.cons (.var 1) .nil)))))) (.seq (.ret (.tup (.cons (.bin .fdiv (.var 0) (.var 2)) (.cons (.bin .fdiv (.var 1) (.var 2)) .nil)))) .skip)), []⟩
-- require_within
def e8 : Ent := ⟨dOf "require_within" "require_within" 19, ["value", "low", "most"], ["value", "low", "most"], 3, 3, false,
  (.seq (.iff (.bnot (.call 1 (.cons (.var 0) (.cons (.var 1) (.cons (.var 2) .nil))))) (.seq (.raise 5 (.cons (.var 0) .nil)) .skip) .skip) .skip), []⟩
-- free_part
def e9 : Ent := ⟨dOf "free_part" "free_part" 21, ["sign"], ["sign"], 1, 1, false,
  (.seq (.ret (.ite (.cmp .eq (.bin .mod (.var 0) (.const (.int 4))) (.const (.int 1))) (.var 0) (.bin .fdiv (.var 0) (.const (.int 4))))) .skip), []⟩
-- sign_from
def e10 : Ent := ⟨dOf "sign_from" "sign_from" 22, ["integer"], ["integer"], 1, 1, false,
  (.seq (.ret (.ite (.cmp .eq (.bin .mod (.var 0) (.const (.int 4))) (.const (.int 1))) (.var 0) (.bin .mul (.const (.int 4)) (.var 0)))) .skip), []⟩
-- times_in
def e11 : Ent := ⟨dOf "times_in_signs" "times_in" 23, ["one", "other"], ["one", "other", "first", "second", "share"], 2, 5, false,
  (.seq (.par 2 3 (.cons (.call 9 (.cons (.var 0) .nil)) (.cons (.call 9 (.cons (.var 1) .nil)) .nil))) (.seq (.asg (.tnm 4) (.call 2 (.cons (.var 2) (.cons (.var 3) .nil)))) (.seq (.ret (.call 10 (.cons (.bin .mul (.bin .fdiv (.var 2) (.var 4)) (.bin .fdiv (.var 3) (.var 4))) .nil))) .skip))), []⟩
-- times_in
def e12 : Ent := ⟨dOf "times_in" "times_in" 27, ["one", "other"], ["one", "other", "length", "found", "at", "first", "place", "second"], 2, 8, false,
  (.seq (.asg (.tnm 2) (.blt .min2 (.cons (.blt .len (.cons (.var 0) .nil)) (.cons (.blt .len (.cons (.var 1) .nil)) .nil)))) (.seq (.asg (.tnm 3) (.bin .mul (.lst (.cons (.const (.int 0)) .nil)) (.var 2))) (.seq (.forr (.ttup (.tcons (.tnm 4) (.tcons (.tnm 5) .tnil))) (.enumE (.slice (.var 0) .no (.var 2))) (.seq (.iff (.cmp .ne (.var 5) (.const (.int 0))) (.seq (.forr (.ttup (.tcons (.tnm 6) (.tcons (.tnm 7) .tnil))) (.enumE (.slice (.var 1) .no (.bin .sub (.var 2) (.var 4)))) (.seq (.augs (.var 3) (.bin .add (.var 4) (.var 6)) .add (.bin .mul (.var 5) (.var 7))) .skip)) .skip) .skip) .skip)) (.seq (.ret (.blt .tuple (.cons (.var 3) .nil))) .skip)))), []⟩
-- spread_in
def e13 : Ent := ⟨dOf "spread_in" "spread_in" 29, ["row", "many"], ["row", "many", "found", "at", "number"], 2, 5, false,
  (.seq (.asg (.tnm 2) (.bin .mul (.lst (.cons (.const (.int 0)) .nil)) (.bin .add (.bin .mul (.bin .sub (.blt .len (.cons (.var 0) .nil)) (.const (.int 1))) (.var 1)) (.const (.int 1))))) (.seq (.forr (.ttup (.tcons (.tnm 3) (.tcons (.tnm 4) .tnil))) (.enumE (.var 0)) (.seq (.asg (.tsub (.var 2) (.bin .mul (.var 3) (.var 1))) (.var 4)) .skip)) (.seq (.ret (.blt .tuple (.cons (.var 2) .nil))) .skip))), []⟩
-- require_row
def e14 : Ent := ⟨dOf "require_row" "require_row" 30, ["row"], ["row", "one"], 1, 2, false,
  (.seq (.iff (.bor (.bnot (.blt .isinst (.cons (.var 0) (.cons (.const (.ty .tuple)) .nil)))) (.bor (.bnot (.chain .le .le (.const (.int 1)) (.blt .len (.cons (.var 0) .nil)) (.const (.int 1001)))) (.bnot (.blt .all (.cons (.comp [1] (.tnm 1) (.var 0) .yes (.call 0 (.cons (.var 1) .nil))) .nil))))) (.seq (.raise 3 .nil) .skip) .skip) .skip), []⟩
-- by_sign
def e15 : Ent := ⟨dOf "by_sign" "by_sign" 36, ["sign"], ["sign"], 1, 1, false,
  (.seq (.ret (.tup (.cons (.var 0) (.cons (.blt .abs (.cons (.var 0) .nil)) .nil)))) .skip), []⟩
-- character_of
def e16 : Ent := ⟨dOf "character_of" "character_of" 37, ["form"], ["form"], 1, 1, false,
  (.seq (.ret (.tup (.cons (.fld [(0, 4)] (.var 0)) (.cons (.fld [(0, 3)] (.var 0)) .nil)))) .skip), []⟩
-- require_level
def e17 : Ent := ⟨dOf "require_level" "require_level" 38, ["level"], ["level"], 1, 1, false,
  (.seq (.iff (.cmp .gt (.var 0) (.const (.int 1000000))) (.seq (.raise 6 (.cons (.const (.int 1000000)) .nil)) .skip) .skip) (.seq (.ret (.var 0)) .skip)), []⟩
-- times_character
def e18 : Ent := ⟨dOf "times_character" "times_character" 39, ["one", "other"], ["one", "other"], 2, 2, false,
  (.seq (.iff (.bor (.cmp .is (.fld [(0, 4)] (.var 0)) (.const .non)) (.cmp .is (.fld [(0, 4)] (.var 1)) (.const .non))) (.seq (.ret (.tup (.cons (.const .non) (.cons (.call 3 (.cons (.fld [(0, 3)] (.var 0)) (.cons (.fld [(0, 3)] (.var 1)) .nil))) .nil)))) .skip) .skip) (.seq (.ret (.call 15 (.cons (.call 11 (.cons (.fld [(0, 4)] (.var 0)) (.cons (.fld [(0, 4)] (.var 1)) .nil))) .nil))) .skip)), []⟩
-- constant_in
def e19 : Ent := ⟨dOf "constant_in" "constant_in" 40, ["number"], ["number"], 1, 1, true,
  (.seq (.ret (.mk 0 6 53 (.cons (.const (.int 0)) (.cons (.const (.int 1)) (.cons (.call 15 (.cons (.const (.int 1)) .nil)) (.cons .lamv .nil)))))) .skip), []⟩
-- times_forms
def e20 : Ent := ⟨dOf "times_forms" "times_forms" 41, ["one", "other"], ["one", "other", "level"], 2, 3, true,
  (.seq (.asg (.tnm 2) (.call 17 (.cons (.call 3 (.cons (.fld [(0, 1)] (.var 0)) (.cons (.fld [(0, 1)] (.var 1)) .nil))) .nil))) (.seq (.ret (.mk 0 6 53 (.cons (.bin .add (.fld [(0, 5)] (.var 0)) (.fld [(0, 5)] (.var 1))) (.cons (.var 2) (.cons (.call 18 (.cons (.var 0) (.cons (.var 1) .nil))) (.cons .lamv .nil)))))) .skip)), []⟩
-- spread_form
def e21 : Ent := ⟨dOf "spread_form" "spread_form" 42, ["form", "step"], ["form", "step"], 2, 2, true,
  (.seq (.ret (.mk 0 6 53 (.cons (.fld [(0, 5)] (.var 0)) (.cons (.call 17 (.cons (.bin .mul (.fld [(0, 1)] (.var 0)) (.var 1)) .nil)) (.cons (.call 16 (.cons (.var 0) .nil)) (.cons .lamv .nil)))))) .skip), []⟩
-- require_form
def e22 : Ent := ⟨dOf "require_form" "require_form" 43, ["form"], ["form"], 1, 1, false,
  (.seq (.iff (.bnot (.isc [(0, 1)] (.var 0))) (.seq (.raise 0 .nil) .skip) .skip) .skip), []⟩
-- require_integer
def e23 : Ent := ⟨dOf "require_integer" "require_integer" 44, ["number"], ["number"], 1, 1, false,
  (.seq (.iff (.bnot (.call 0 (.cons (.var 0) .nil))) (.seq (.raise 5 (.cons (.var 0) .nil)) .skip) .skip) .skip), []⟩
-- constant
def e24 : Ent := ⟨dOf "constant" "constant" 45, ["number"], ["number"], 1, 1, false,
  (.seq (.expr (.call 23 (.cons (.var 0) .nil))) (.seq (.ret (.call 19 (.cons (.var 0) .nil))) .skip)), []⟩
-- spread
def e25 : Ent := ⟨dOf "spread" "spread" 46, ["form", "many"], ["form", "many"], 2, 2, false,
  (.seq (.expr (.call 22 (.cons (.var 0) .nil))) (.seq (.expr (.call 8 (.cons (.var 1) (.cons (.const (.int 1)) (.cons (.const (.int 1000)) .nil))))) (.seq (.ret (.call 21 (.cons (.var 0) (.cons (.var 1) .nil)))) .skip))), []⟩
-- choices
def e26 : Ent := ⟨dOf "choices" "choices" 53, ["many", "some"], ["many", "some", "found", "at"], 2, 4, false,
  (.seq (.iff (.cmp .eq (.var 1) (.const (.int 0))) (.seq (.ret (.const (.int 1))) .skip) .skip) (.seq (.iff (.cmp .gt (.var 1) (.var 0)) (.seq (.ret (.const (.int 0))) .skip) .skip) (.seq (.asg (.tnm 2) (.const (.int 1))) (.seq (.forr (.tnm 3) (.rng1 (.var 1)) (.seq (.asg (.tnm 2) (.bin .fdiv (.bin .mul (.var 2) (.bin .sub (.var 0) (.var 3))) (.bin .add (.var 3) (.const (.int 1))))) .skip)) (.seq (.ret (.var 2)) .skip))))), []⟩
-- derived_in
def e27 : Ent := ⟨dOf "derived_in" "derived_in" 54, ["row", "many"], ["row", "many", "at", "one"], 2, 4, false,
  (.seq (.ret (.blt .tuple (.cons (.comp [2, 3] (.ttup (.tcons (.tnm 2) (.tcons (.tnm 3) .tnil))) (.enumE (.var 0)) .yes (.bin .mul (.call 4 (.cons (.var 2) (.cons (.var 1) .nil))) (.var 3))) .nil))) .skip), []⟩
-- terms_in
def e28 : Ent := ⟨dOf "terms_in" "terms_in" 55, ["weight", "other_weight", "order"], ["weight", "other_weight", "order", "found", "at", "side"], 3, 6, false,
  (.seq (.asg (.tnm 3) (.lst .nil)) (.seq (.forr (.tnm 4) (.rng1 (.bin .add (.var 2) (.const (.int 1)))) (.seq (.asg (.tnm 5) (.bin .sub (.const (.int 1)) (.bin .mul (.const (.int 2)) (.bin .mod (.var 4) (.const (.int 2)))))) (.seq (.append (.var 3) (.bin .mul (.bin .mul (.var 5) (.call 26 (.cons (.bin .sub (.bin .add (.var 2) (.var 0)) (.const (.int 1))) (.cons (.bin .sub (.var 2) (.var 4)) .nil)))) (.call 26 (.cons (.bin .sub (.bin .add (.var 2) (.var 1)) (.const (.int 1))) (.cons (.var 4) .nil))))) .skip))) (.seq (.ret (.var 3)) .skip))), []⟩
-- bracket_row
def e29 : Ent := ⟨dOf "bracket_row" "bracket_row" 56, ["one", "other", "order", "many"], ["one", "other", "order", "many", "first", "second", "found", "at", "term", "part", "number", "more"], 4, 12, false,
  (.seq (.raise 0 .no) (.seq (.forr (.ttup (.tcons (.tnm 7) (.tcons (.tnm 8) .tnil))) (.enumE (.call 28 (.cons (.fld [(0, 5)] (.var 0)) (.cons (.fld [(0, 5)] (.var 1)) (.cons (.var 2) .nil))))) (.seq (.iff (.cmp .ne (.var 8) (.const (.int 0))) (.seq (.asg (.tnm 9) (.call 12 (.cons (.call 27 (.cons (.var 4) (.cons (.var 7) .nil))) (.cons (.call 27 (.cons (.var 5) (.cons (.bin .sub (.var 2) (.var 7)) .nil))) .nil)))) (.seq (.asg (.tnm 6) (.comp [10, 11] (.ttup (.tcons (.tnm 10) (.tcons (.tnm 11) .tnil))) (.zipE (.var 6) (.var 9)) .yes (.bin .add (.var 10) (.bin .mul (.var 8) (.var 11))))) .skip)) .skip) .skip)) (.seq (.ret (.blt .tuple (.cons (.var 6) .nil))) .skip))), []⟩
-- lead_row
def e30 : Ent := ⟨dOf "lead_row" "lead_row" 57, ["many"], ["many", "at"], 1, 2, false,
  (.seq (.ret (.slice (.bin .add (.tup (.cons (.const (.int 1)) .nil)) (.blt .tuple (.cons (.comp [1] (.tnm 1) (.rng2 (.const (.int 1)) (.var 0)) .yes (.bin .sub (.const (.int 0)) (.bin .mul (.const (.int 24)) (.call 6 (.cons (.var 1) (.cons (.const (.int 1)) .nil)))))) .nil))) .no (.var 0))) .skip), []⟩
-- steady_row
def e31 : Ent := ⟨dOf "steady_row" "steady_row" 58, ["form", "many"], ["form", "many", "row", "part", "at", "one", "more"], 2, 7, false,
  (.seq (.raise 0 .no) (.seq (.asg (.tnm 3) (.call 12 (.cons (.var 2) (.cons (.call 30 (.cons (.var 1) .nil)) .nil)))) (.seq (.raise 0 .no) .skip))), []⟩
-- require_order
def e32 : Ent := ⟨dOf "require_order" "require_order" 59, ["order"], ["order"], 1, 1, false,
  (.seq (.expr (.call 8 (.cons (.var 0) (.cons (.const (.int 0)) (.cons (.const (.int 10)) .nil))))) .skip), []⟩
-- derived_row
def e33 : Ent := ⟨dOf "derived_row" "derived_row" 60, ["row", "many"], ["row", "many"], 2, 2, false,
  (.seq (.expr (.call 14 (.cons (.var 0) .nil))) (.seq (.expr (.call 8 (.cons (.var 1) (.cons (.const (.int 0)) (.cons (.const (.int 100)) .nil))))) (.seq (.ret (.call 27 (.cons (.var 0) (.cons (.var 1) .nil)))) .skip))), []⟩
-- bracket_terms
def e34 : Ent := ⟨dOf "bracket_terms" "bracket_terms" 61, ["weight", "other_weight", "order"], ["weight", "other_weight", "order"], 3, 3, false,
  (.seq (.expr (.call 8 (.cons (.var 0) (.cons (.const (.int 0)) (.cons (.const (.int 240)) .nil))))) (.seq (.expr (.call 8 (.cons (.var 1) (.cons (.const (.int 0)) (.cons (.const (.int 240)) .nil))))) (.seq (.expr (.call 32 (.cons (.var 2) .nil))) (.seq (.ret (.blt .tuple (.cons (.call 28 (.cons (.var 0) (.cons (.var 1) (.cons (.var 2) .nil)))) .nil))) .skip)))), []⟩
-- bracket
def e35 : Ent := ⟨dOf "bracket" "bracket" 62, ["one", "other", "order"], ["one", "other", "order", "both"], 3, 4, true,
  (.seq (.expr (.call 22 (.cons (.var 0) .nil))) (.seq (.expr (.call 22 (.cons (.var 1) .nil))) (.seq (.expr (.call 32 (.cons (.var 2) .nil))) (.seq (.asg (.tnm 3) (.call 20 (.cons (.var 0) (.cons (.var 1) .nil)))) (.seq (.ret (.mk 0 6 53 (.cons (.bin .add (.fld [(0, 5)] (.var 3)) (.bin .mul (.const (.int 2)) (.var 2))) (.cons (.fld [(0, 1)] (.var 3)) (.cons (.call 16 (.cons (.var 3) .nil)) (.cons .lamv .nil)))))) .skip))))), []⟩
-- steady
def e36 : Ent := ⟨dOf "steady" "steady" 63, ["form"], ["form"], 1, 1, true,
  (.seq (.expr (.call 22 (.cons (.var 0) .nil))) (.seq (.ret (.mk 0 6 53 (.cons (.bin .add (.fld [(0, 5)] (.var 0)) (.const (.int 2))) (.cons (.fld [(0, 1)] (.var 0)) (.cons (.call 16 (.cons (.var 0) .nil)) (.cons .lamv .nil)))))) .skip)), []⟩
-- choices_in
def e37 : Ent := ⟨dOf "choices_in" "choices_in" 67, ["many"], ["many", "found", "at"], 1, 3, false,
  (.seq (.asg (.tnm 1) (.lst (.cons (.const (.int 1)) .nil))) (.seq (.forr (.tnm 2) (.rng1 (.var 0)) (.seq (.append (.var 1) (.bin .fdiv (.bin .mul (.ix (.var 1) (.neg (.const (.int 1)))) (.bin .sub (.var 0) (.var 2))) (.bin .add (.var 2) (.const (.int 1))))) .skip)) (.seq (.ret (.var 1)) .skip))), []⟩
-- plus_fractions
def e38 : Ent := ⟨dOf "plus_fractions" "plus_fractions" 68, ["one", "other"], ["one", "other"], 2, 2, false,
  (.seq (.ret (.call 7 (.cons (.bin .add (.bin .mul (.ix (.var 0) (.const (.int 0))) (.ix (.var 1) (.const (.int 1)))) (.bin .mul (.ix (.var 1) (.const (.int 0))) (.ix (.var 0) (.const (.int 1))))) (.cons (.bin .mul (.ix (.var 0) (.const (.int 1))) (.ix (.var 1) (.const (.int 1)))) .nil)))) .skip), []⟩
-- bernoullis_to
def e39 : Ent := ⟨dOf "bernoullis_to" "bernoullis_to" 69, ["number"], ["number", "found", "at", "total", "many", "one"], 1, 6, false,
  (.seq (.asg (.tnm 1) (.lst (.cons (.tup (.cons (.const (.int 1)) (.cons (.const (.int 1)) .nil))) .nil))) (.seq (.forr (.tnm 2) (.rng2 (.const (.int 1)) (.bin .add (.var 0) (.const (.int 1)))) (.seq (.asg (.tnm 3) (.tup (.cons (.const (.int 0)) (.cons (.const (.int 1)) .nil)))) (.seq (.forr (.ttup (.tcons (.tnm 4) (.tcons (.tnm 5) .tnil))) (.zipE (.call 37 (.cons (.bin .add (.var 2) (.const (.int 1))) .nil)) (.var 1)) (.seq (.asg (.tnm 3) (.call 38 (.cons (.var 3) (.cons (.tup (.cons (.bin .mul (.var 4) (.ix (.var 5) (.const (.int 0)))) (.cons (.ix (.var 5) (.const (.int 1))) .nil))) .nil)))) .skip)) (.seq (.append (.var 1) (.call 7 (.cons (.bin .sub (.const (.int 0)) (.ix (.var 3) (.const (.int 0)))) (.cons (.bin .mul (.ix (.var 3) (.const (.int 1))) (.bin .add (.var 2) (.const (.int 1)))) .nil)))) .skip)))) (.seq (.ret (.var 1)) .skip))), []⟩
-- beginning_in
def e40 : Ent := ⟨dOf "beginning_in" "beginning_in" 70, ["weight", "number"], ["weight", "number"], 2, 2, false,
  (.seq (.ret (.call 7 (.cons (.bin .sub (.const (.int 0)) (.ix (.var 1) (.const (.int 0)))) (.cons (.bin .mul (.bin .mul (.const (.int 2)) (.var 0)) (.ix (.var 1) (.const (.int 1)))) .nil)))) .skip), []⟩
-- divisor_row
def e41 : Ent := ⟨dOf "divisor_row" "divisor_row" 71, ["first", "many", "term"], ["first", "many", "term", "found", "part", "place"], 3, 6, false,
  (.seq (.asg (.tnm 3) (.bin .add (.lst (.cons (.var 0) .nil)) (.bin .mul (.lst (.cons (.const (.int 0)) .nil)) (.var 1)))) (.seq (.forr (.tnm 4) (.rng2 (.const (.int 1)) (.var 1)) (.seq (.forr (.tnm 5) (.rng3 (.var 4) (.var 1) (.var 4)) (.seq (.augs (.var 3) (.var 5) .add (.callv (.var 2) (.cons (.var 4) (.cons (.bin .fdiv (.var 5) (.var 4)) .nil)))) .skip)) .skip)) (.seq (.ret (.blt .tuple (.cons (.slice (.var 3) .no (.var 1)) .nil))) .skip))), []⟩
-- scaled_row
def e42 : Ent := ⟨dOf "scaled_row" "scaled_row" 72, ["row", "number"], ["row", "number", "one"], 2, 3, false,
  (.seq (.ret (.bin .add (.slice (.var 0) .no (.const (.int 1))) (.blt .tuple (.cons (.comp [2] (.tnm 2) (.slice (.var 0) (.const (.int 1)) .no) .yes (.bin .mul (.var 1) (.var 2))) .nil)))) .skip), []⟩
-- sums_form
def e43 : Ent := ⟨dOf "sums_form" "sums_form" 73, ["weight"], ["weight", "first", "share"], 1, 3, true,
  (.seq (.asg (.ttup (.tcons (.tnm 1) (.tcons (.tnm 2) .tnil))) (.call 40 (.cons (.var 0) (.cons (.ix (.call 39 (.cons (.var 0) .nil)) (.var 0)) .nil)))) (.seq (.ret (.mk 0 6 53 (.cons (.var 0) (.cons (.const (.int 1)) (.cons (.call 15 (.cons (.const (.int 1)) .nil)) (.cons .lamv .nil)))))) .skip)), []⟩
-- sums_of_powers
def e44 : Ent := ⟨dOf "sums_of_powers" "sums_of_powers" 74, ["weight"], ["weight"], 1, 1, false,
  (.seq (.iff (.bor (.bnot (.call 1 (.cons (.var 0) (.cons (.const (.int 4)) (.cons (.const (.int 60)) .nil))))) (.cmp .eq (.bin .mod (.var 0) (.const (.int 2))) (.const (.int 1)))) (.seq (.raise 5 (.cons (.var 0) .nil)) .skip) .skip) (.seq (.ret (.call 43 (.cons (.var 0) .nil))) .skip)), []⟩
-- _law_dice
def e45 : Ent := ⟨dOf "_law_dice" "_law_dice" 76, ["script", "spot"], ["script", "spot", "cell", "great", "seed"], 2, 5, false,
  (.seq (.asg (.tnm 2) (.ite (.cmp .lt (.var 1) (.blt .len (.cons (.var 0) .nil))) (.blt .int (.cons (.ix (.var 0) (.var 1)) .nil)) (.bin .add (.bin .mul (.const (.int 157)) (.var 1)) (.const (.int 61))))) (.seq (.asg (.tnm 3) (.bin .mod (.blt .int (.cons (.blt .abs (.cons (.var 2) .nil)) .nil)) (.bin .pow (.bin .pow (.const (.int 10)) (.const (.int 54))) (.const (.int 6))))) (.seq (.asg (.tnm 4) (.bin .add (.bin .add (.bin .add (.bin .mul (.bin .mod (.var 3) (.const (.int 2305843009213693921))) (.const (.int 73))) (.bin .mul (.const (.int 757)) (.var 1))) (.bin .mul (.const (.int 43)) (.blt .int (.cons (.cmp .lt (.var 2) (.const (.int 0))) .nil)))) (.const (.int 37)))) (.seq (.ret (.lst (.cons (.blt .max2 (.cons (.const (.int 0)) (.cons (.bin .sub (.var 3) (.bin .pow (.const (.int 10)) (.const (.int 16)))) .nil))) (.cons (.var 4) (.cons (.const (.int 0)) .nil))))) .skip)))), []⟩
-- _law_roll
def e46 : Ent := ⟨dOf "_law_roll" "_law_roll" 77, ["dice", "total"], ["dice", "total", "found", "one", "two"], 2, 5, false,
  (.seq (.iff (.cmp .gt (.ix (.var 0) (.const (.int 0))) (.const (.int 0))) (.seq (.asg (.tnm 2) (.bin .mod (.ix (.var 0) (.const (.int 0))) (.var 1))) (.seq (.asg (.tsub (.var 0) (.const (.int 0))) (.bin .fdiv (.ix (.var 0) (.const (.int 0))) (.var 1))) (.seq (.ret (.blt .int (.cons (.var 2) .nil))) .skip))) .skip) (.seq (.asg (.tsub (.var 0) (.const (.int 2))) (.bin .add (.ix (.var 0) (.const (.int 2))) (.const (.int 1)))) (.seq (.asg (.tnm 3) (.bin .mod (.bin .add (.ix (.var 0) (.const (.int 1))) (.bin .mul (.const (.int 86028157)) (.ix (.var 0) (.const (.int 2))))) (.const (.int 2305843009213693951)))) (.seq (.asg (.tnm 4) (.bin .add (.bin .mul (.bin .mod (.bin .add (.bin .mul (.var 3) (.var 3)) (.bin .mul (.const (.int 191)) (.ix (.var 0) (.const (.int 2))))) (.const (.int 2305843009213693907))) (.const (.int 15485867))) (.var 3))) (.seq (.ret (.bin .mod (.blt .int (.cons (.bin .fdiv (.var 4) (.const (.int 65579))) .nil)) (.var 1))) .skip))))), []⟩
-- _law_pick
def e47 : Ent := ⟨dOf "_law_pick" "_law_pick" 78, ["dice", "items"], ["dice", "items"], 2, 2, false,
  (.seq (.ret (.ix (.var 1) (.call 46 (.cons (.var 0) (.cons (.blt .len (.cons (.var 1) .nil)) .nil))))) .skip), []⟩
-- _law_one
def e48 : Ent := ⟨dOf "_law_one" "_law_one" 79, ["dice", "right", "wrong"], ["dice", "right", "wrong"], 3, 3, false,
  (.seq (.iff (.cmp .gt (.call 46 (.cons (.var 0) (.cons (.const (.int 3)) .nil))) (.const (.int 0))) (.seq (.ret (.tup (.cons (.var 1) (.cons (.const (.bl false)) .nil)))) .skip) .skip) (.seq (.ret (.tup (.cons (.call 47 (.cons (.var 0) (.cons (.var 2) .nil))) (.cons (.const (.bl true)) .nil)))) .skip)), []⟩
-- _law_first
def e49 : Ent := ⟨dOf "_law_first" "_law_first" 80, ["rows"], ["rows", "some", "word", "is_wrong"], 1, 4, false,
  (.seq (.asg (.tnm 1) (.comp [2, 3] (.ttup (.tcons (.tnm 2) (.tcons (.tnm 3) .tnil))) (.var 0) (.var 3) (.var 2))) (.seq (.ret (.ite (.cmp .ne (.var 1) (.lst .nil)) (.ix (.var 1) (.const (.int 0))) (.const (.str "none")))) .skip)), []⟩
-- _law_met
def e50 : Ent := ⟨dOf "_law_met" "_law_met" 81, ["call"], ["call", "error"], 1, 2, false,
  (.seq (.raise 0 .no) (.seq (.ret (.const (.str "none"))) .skip)), []⟩
-- _law_right
def e51 : Ent := ⟨dOf "_law_right" "_law_right" 82, ["dice"], ["dice", "odd", "one", "no_one", "other", "no_other", "order", "no_order", "rows", "weight", "no_weight", "mate", "no_mate", "due", "row", "no_row", "many", "no_many"], 1, 18, true,
  (.seq (.asg (.tnm 1) (.lst (.cons (.const .non) (.cons (.const (.int 0)) (.cons (.tup (.cons (.const (.int 1)) (.cons (.const (.int 240)) .nil))) (.cons (.const (.str "form")) (.cons .emp (.cons (.const (.bl true)) .nil)))))))) (.seq (.asg (.ttup (.tcons (.tnm 2) (.tcons (.tnm 3) .tnil))) (.call 48 (.cons (.var 0) (.cons (.call 44 (.cons (.const (.int 4)) .nil)) (.cons (.var 1) .nil))))) (.seq (.asg (.ttup (.tcons (.tnm 4) (.tcons (.tnm 5) .tnil))) (.call 48 (.cons (.var 0) (.cons (.call 44 (.cons (.const (.int 8)) .nil)) (.cons (.var 1) .nil))))) (.seq (.asg (.ttup (.tcons (.tnm 6) (.tcons (.tnm 7) .tnil))) (.call 48 (.cons (.var 0) (.cons (.call 47 (.cons (.var 0) (.cons (.lst (.cons (.const (.int 0)) (.cons (.const (.int 1)) (.cons (.const (.int 10)) .nil)))) .nil))) (.cons (.lst (.cons (.neg (.const (.int 1))) (.cons (.const (.int 11)) (.cons (.const .non) (.cons (.const (.bl true)) (.cons (.const (.str "1")) (.cons (.tup (.cons (.const (.int 1)) .nil)) .nil))))))) .nil))))) (.seq (.asg (.tnm 8) (.lst (.cons (.tup (.cons (.const (.str "form")) (.cons (.var 3) .nil))) (.cons (.tup (.cons (.const (.str "form")) (.cons (.var 5) .nil))) (.cons (.tup (.cons (.bin .add (.const (.str "count ")) (.blt .repr (.cons (.var 6) .nil))) (.cons (.var 7) .nil))) .nil))))) (.seq (.iff (.cmp .ne (.met 8 [.ret 0 (.str "form"), .ret 1 (.str "sign"), .ret 2 (.str "table"), .ret 3 (.str "row"), .ret 4 (.str "operation"), .rep 5 "count ", .rep 6 "many ", .rep 7 "refused "] (.str "none") (.call 35 (.cons (.var 2) (.cons (.var 4) (.cons (.var 6) .nil))))) (.call 49 (.cons (.var 8) .nil))) (.seq (.ret (.const (.bl false))) .skip) .skip) (.seq (.iff (.cmp .ne (.met 8 [.ret 0 (.str "form"), .ret 1 (.str "sign"), .ret 2 (.str "table"), .ret 3 (.str "row"), .ret 4 (.str "operation"), .rep 5 "count ", .rep 6 "many ", .rep 7 "refused "] (.str "none") (.call 36 (.cons (.var 2) .nil))) (.call 49 (.cons (.slice (.var 8) .no (.const (.int 1))) .nil))) (.seq (.ret (.const (.bl false))) .skip) .skip) (.seq (.asg (.ttup (.tcons (.tnm 9) (.tcons (.tnm 10) .tnil))) (.call 48 (.cons (.var 0) (.cons (.call 47 (.cons (.var 0) (.cons (.lst (.cons (.const (.int 0)) (.cons (.const (.int 1)) (.cons (.const (.int 240)) .nil)))) .nil))) (.cons (.lst (.cons (.neg (.const (.int 1))) (.cons (.const (.int 241)) (.cons (.const .non) (.cons (.const (.bl true)) (.cons (.const (.str "4")) .nil)))))) .nil))))) (.seq (.asg (.ttup (.tcons (.tnm 11) (.tcons (.tnm 12) .tnil))) (.call 48 (.cons (.var 0) (.cons (.call 47 (.cons (.var 0) (.cons (.lst (.cons (.const (.int 0)) (.cons (.const (.int 2)) (.cons (.const (.int 240)) .nil)))) .nil))) (.cons (.lst (.cons (.neg (.const (.int 1))) (.cons (.const (.int 241)) (.cons (.const .non) (.cons (.const (.bl false)) (.cons (.const (.str "4")) .nil)))))) .nil))))) (.seq (.asg (.tnm 13) (.lst (.cons (.tup (.cons (.bin .add (.const (.str "count ")) (.blt .repr (.cons (.var 9) .nil))) (.cons (.var 10) .nil))) (.cons (.tup (.cons (.bin .add (.const (.str "count ")) (.blt .repr (.cons (.var 11) .nil))) (.cons (.var 12) .nil))) (.cons (.tup (.cons (.bin .add (.const (.str "count ")) (.blt .repr (.cons (.var 6) .nil))) (.cons (.var 7) .nil))) .nil))))) (.seq (.iff (.cmp .ne (.met 8 [.ret 0 (.str "form"), .ret 1 (.str "sign"), .ret 2 (.str "table"), .ret 3 (.str "row"), .ret 4 (.str "operation"), .rep 5 "count ", .rep 6 "many ", .rep 7 "refused "] (.str "none") (.call 34 (.cons (.var 9) (.cons (.var 11) (.cons (.var 6) .nil))))) (.call 49 (.cons (.var 13) .nil))) (.seq (.ret (.const (.bl false))) .skip) .skip) (.seq (.asg (.ttup (.tcons (.tnm 14) (.tcons (.tnm 15) .tnil))) (.call 48 (.cons (.var 0) (.cons (.tup (.cons (.const (.int 1)) (.cons (.const (.int 2)) (.cons (.const (.int 3)) .nil)))) (.cons (.lst (.cons (.const .non) (.cons (.tup .nil) (.cons (.lst (.cons (.const (.int 1)) (.cons (.const (.int 2)) .nil))) (.cons (.tup (.cons (.const (.int 1)) (.cons (.const (.bl true)) .nil))) (.cons (.const (.str "12")) (.cons (.bin .mul (.tup (.cons (.const (.int 0)) .nil)) (.const (.int 1002))) .nil))))))) .nil))))) (.seq (.asg (.ttup (.tcons (.tnm 16) (.tcons (.tnm 17) .tnil))) (.call 48 (.cons (.var 0) (.cons (.call 47 (.cons (.var 0) (.cons (.lst (.cons (.const (.int 0)) (.cons (.const (.int 1)) (.cons (.const (.int 100)) .nil)))) .nil))) (.cons (.lst (.cons (.neg (.const (.int 1))) (.cons (.const (.int 101)) (.cons (.const .non) (.cons (.const (.bl true)) (.cons (.const (.str "1")) .nil)))))) .nil))))) (.seq (.ret (.cmp .eq (.met 8 [.ret 0 (.str "form"), .ret 1 (.str "sign"), .ret 2 (.str "table"), .ret 3 (.str "row"), .ret 4 (.str "operation"), .rep 5 "count ", .rep 6 "many ", .rep 7 "refused "] (.str "none") (.call 33 (.cons (.var 14) (.cons (.var 16) .nil)))) (.call 49 (.cons (.lst (.cons (.tup (.cons (.const (.str "row")) (.cons (.var 15) .nil))) (.cons (.tup (.cons (.bin .add (.const (.str "count ")) (.blt .repr (.cons (.var 16) .nil))) (.cons (.var 17) .nil))) .nil))) .nil)))) .skip)))))))))))))), [[], [], [1], [], [3, 5], [4], [2, 8], [], [], [7, 10, 12], [6, 9, 11, 13], [], [], [14, 15, 16, 17]]⟩
-- law
def e52 : Ent := ⟨dOf "law" "law" 83, ["script"], ["script", "spot", "dice", "turn", "great", "wide"], 1, 6, true,
  (.seq (.forr (.tnm 1) (.rng1 (.blt .max2 (.cons (.const (.int 1)) (.cons (.blt .min2 (.cons (.const (.int 8)) (.cons (.blt .len (.cons (.var 0) .nil)) .nil))) .nil)))) (.seq (.asg (.tnm 2) (.call 45 (.cons (.var 0) (.cons (.var 1) .nil)))) (.seq (.forr (.tnm 3) (.rng1 (.const (.int 3))) (.seq (.iff (.bnot (.call 51 (.cons (.var 2) .nil))) (.seq (.ret (.const (.bl false))) .skip) .skip) .skip)) .skip))) (.seq (.asg (.ttup (.tcons (.tnm 4) (.tcons (.tnm 5) .tnil))) (.tup (.cons (.call 25 (.cons (.call 25 (.cons (.call 24 (.cons (.const (.int 1)) .nil)) (.cons (.const (.int 1000)) .nil))) (.cons (.const (.int 1000)) .nil))) (.cons (.call 25 (.cons (.call 24 (.cons (.const (.int 1)) .nil)) (.cons (.const (.int 3)) .nil))) .nil)))) (.seq (.iff (.cmp .ne (.met 8 [.ret 0 (.str "form"), .ret 1 (.str "sign"), .ret 2 (.str "table"), .ret 3 (.str "row"), .ret 4 (.str "operation"), .rep 5 "count ", .rep 6 "many ", .rep 7 "refused "] (.str "none") (.call 35 (.cons (.var 4) (.cons (.var 5) (.cons (.const (.int 1)) .nil))))) (.const (.str "many 1000000"))) (.seq (.ret (.const (.bl false))) .skip) .skip) (.seq (.ret (.cmp .eq (.met 8 [.ret 0 (.str "form"), .ret 1 (.str "sign"), .ret 2 (.str "table"), .ret 3 (.str "row"), .ret 4 (.str "operation"), .rep 5 "count ", .rep 6 "many ", .rep 7 "refused "] (.str "none") (.call 36 (.cons (.var 4) .nil))) (.const (.str "none")))) .skip)))), [[1, 2, 3]]⟩
-- Form.__init__
def e53 : Ent := ⟨mOf "Form" "__init__" 35 1, ["self", "weight", "level", "character", "maker"], ["self", "weight", "level", "character", "maker"], 5, 5, false,
  (.seq (.asg (.ttup (.tcons (.tfld [(0, 5)] (.var 0)) (.tcons (.tfld [(0, 1)] (.var 0)) (.tcons (.tfld [(0, 2)] (.var 0)) .tnil)))) (.tup (.cons (.var 1) (.cons (.var 2) (.cons (.var 4) .nil))))) (.seq (.asg (.ttup (.tcons (.tfld [(0, 4)] (.var 0)) (.tcons (.tfld [(0, 3)] (.var 0)) .tnil))) (.var 3)) (.seq (.asg (.tfld [(0, 0)] (.var 0)) (.tup .nil)) .skip))), []⟩
def es : List Ent := ([e0, e1, e2, e3, e4, e5, e6, e7, e8, e9, e10, e11, e12, e13, e14, e15, e16, e17, e18, e19] : List Ent) ++
  ([e20, e21, e22, e23, e24, e25, e26, e27, e28, e29, e30, e31, e32, e33, e34, e35, e36, e37, e38, e39] : List Ent) ++
  ([e40, e41, e42, e43, e44, e45, e46, e47, e48, e49, e50, e51, e52, e53] : List Ent)
def gs : List (Str × D) := ([("is_integer", .fn 0), ("is_within", .fn 1), ("common_of", .fn 2), ("multiple_of", .fn 3), ("power_of", .fn 4), ("divisors_in", .fn 5), ("power_sum_in", .fn 6), ("lowest", .fn 7), ("require_within", .fn 8), ("free_part", .fn 9), ("sign_from", .fn 10), ("times_in_signs", .fn 11), ("MAX_LENGTH", (.int 1001)), ("times_in_rows", .fn 12), ("require_row", .fn 14), ("MAX_LEVEL", (.int 1000000)), ("MOST_STEP", (.int 1000)), ("by_sign", .fn 15), ("character_of", .fn 16), ("require_level", .fn 17)] : List (Str × D)) ++
  ([("times_character", .fn 18), ("constant_in", .fn 19), ("times_forms", .fn 20), ("spread_form", .fn 21), ("require_form", .fn 22), ("require_integer", .fn 23), ("constant", .fn 24), ("spread", .fn 25), ("MOST_ORDER", (.int 10)), ("MOST_DERIVED", (.int 100)), ("MAX_WEIGHT_brackets", (.int 240)), ("STEP", (.int 24)), ("choices", .fn 26), ("derived_in", .fn 27), ("terms_in", .fn 28), ("lead_row", .fn 30), ("require_order", .fn 32), ("derived_row", .fn 33), ("bracket_terms", .fn 34), ("bracket", .fn 35)] : List (Str × D)) ++
  ([("steady", .fn 36), ("MAX_WEIGHT_sums", (.int 60)), ("LEAST_WEIGHT", (.int 4)), ("choices_in", .fn 37), ("plus_fractions", .fn 38), ("bernoullis_to", .fn 39), ("beginning_in", .fn 40), ("sums_form", .fn 43), ("sums_of_powers", .fn 44), ("_law_dice", .fn 45), ("_law_roll", .fn 46), ("_law_pick", .fn 47), ("_law_one", .fn 48), ("_law_first", .fn 49), ("_law_met", .fn 50), ("_law_right", .fn 51), ("law", .fn 52)] : List (Str × D))
def bs : List Str := (["abs", "all", "bool", "enumerate", "int", "isinstance", "len", "max", "min", "range", "repr", "sum", "tuple", "zip"] : List Str)
def xs : List XE := ([⟨"InvalidForm", false, ""⟩, ⟨"InvalidSign", false, ""⟩, ⟨"InvalidTable", false, ""⟩, ⟨"InvalidRow", false, ""⟩, ⟨"InvalidOperation", false, ""⟩, ⟨"InvalidCount", true, "given"⟩, ⟨"TooMany", true, "limit"⟩, ⟨"Refused", true, "reason"⟩] : List XE)
def ms : MsC := ⟨([("_law_met", 50)] : List (Str × Nat)), ([⟨"Form", ["own_known", "own_level", "own_maker", "own_modulus", "own_sign", "own_weight"], 53, [], [("weight", 5), ("level", 1), ("sign", 4), ("modulus", 3)]⟩] : List CE)⟩
theorem good1 : es.all Ent.good = true := by kernel_rfl
theorem src1 : es.map (fun e => e.body) = es.map (Ent.src (gloOf gs bs xs es ms)) := by kernel_rfl
theorem good : ∀ e ∈ es, e.good = true := fun e h => List.all_eq_true.mp good1 e h
theorem src : ∀ e ∈ es, e.body = e.src (gloOf gs bs xs es ms) := List.map_inj_left.mp src1
end Pf

set_option Elab.async false
set_option linter.all false
set_option maxRecDepth 100000
set_option maxHeartbeats 0
namespace Pf
open PySem L2 Ev
abbrev R : PySem.W.OpenRow := PySem.W.OpenLaw.row PySem.Challenge.rw_turnseries_k82_errors_of_brackets
def as0 : List Addr := [0, 2, 3, 4, 6, 22, 23, 24, 25, 35, 36, 37, 47, 48, 49, 59, 60, 61, 71, 72, 73, 83, 84, 85, 91, 97, 98, 99, 100, 101, 102, 103, 104, 105, 106, 107, 113, 119, 120, 121, 122, 123, 124, 125, 126, 127, 128, 129, 135, 141, 142, 143, 144, 145, 146, 147, 148, 149, 150, 151, 154, 155, 156, 157, 158, 159, 160, 161, 162, 163, 164, 165, 166, 167, 168, 169, 170, 171, 172, 173, 174, 175, 176, 177, 178, 179, 180, 181, 182, 183, 184, 185, 186, 187, 188, 189, 190, 191, 192, 193, 194, 195, 196, 197, 198, 199, 200, 201, 202, 203, 204, 205, 206, 207, 208, 209, 210, 211, 212, 213, 214, 215, 216, 217, 218, 219, 220, 221, 222, 223, 224, 225, 226, 227, 228, 229, 230, 231, 232, 233, 234, 235, 236, 237, 238, 239, 240, 241, 242, 243, 244, 245, 246, 247, 248, 249, 250, 251, 252, 253, 254, 262, 263, 264, 265, 266, 267, 268, 269, 270, 271, 272, 273, 274, 275, 276, 277, 278, 279, 280, 281, 282, 283, 284, 285, 286, 287, 288, 289, 290, 291, 292, 293, 294, 295, 296, 297, 298, 299, 300, 301, 302, 303, 304, 305, 306, 307, 308, 309, 310, 311, 312, 313, 314, 315, 316, 317, 318, 319, 320, 321, 322, 323, 324, 325, 326, 327, 328, 329, 330, 332, 333, 334, 335, 336, 337, 338, 339, 342, 343, 344, 345, 346, 347, 348, 349, 350, 351, 352, 353, 354, 355, 356, 357, 358, 359, 360, 361, 362, 363, 364, 365, 366, 367, 368, 369, 370, 371, 372, 373, 374, 375, 376, 377, 378, 379, 380, 381, 382, 383, 384, 385, 386, 387, 388, 389, 390, 391, 392, 393, 394, 395, 396, 397, 398, 399, 400, 401, 402, 403, 404, 405, 406, 407, 408, 409, 410, 411, 412, 413, 414, 415, 416, 417, 418, 419, 420, 421, 422, 423, 424, 425, 426, 427, 428, 429, 430, 431, 432, 433, 434, 435, 436, 437, 438, 439, 440, 441, 442, 443, 444, 445, 446, 447, 448, 449, 450, 451, 452, 453, 454, 455, 456, 457, 458, 459, 460, 461, 462, 463, 464, 465, 466, 467, 468, 469, 470, 471, 472, 473, 474, 475, 476, 477, 478, 479, 480, 481, 482, 483, 484, 485, 486, 487, 488, 489, 490, 491, 492, 493, 494, 495, 496, 497, 498, 499, 500, 501, 502, 503, 504, 505, 506, 507, 508, 509, 510, 511, 512, 513, 514, 515, 516, 517, 518, 519, 520, 521, 522, 523, 524, 525, 526, 527, 528, 529, 530, 531, 532, 533, 534, 535, 536, 537, 538, 539, 540, 541, 542, 543, 544, 545, 546, 547, 548, 549, 550, 551, 552, 553, 554, 555, 556, 557, 558, 559, 560, 561, 562, 563, 564, 565, 566, 567, 568, 569, 570, 571, 572, 573, 574, 575, 576, 577, 578, 579, 580, 581, 582, 583, 584, 585, 586, 587, 588, 589, 590, 591, 592, 593, 594, 595]
abbrev hk : PySem.W.Hook := hookX PySem.Challenge.pw_turnseries_k82_errors_of_brackets as0 es gs bs xs ms
def ob (s : PySem.W.SharedT) : AlX := obsX PySem.Challenge.pw_turnseries_k82_errors_of_brackets as0 es gs bs xs ms (HandSHeadRun.getT s)
theorem ob_eq (s : PySem.W.SharedT) : ob s = hk.obs s.abs := obsX_eq (HandSHeadRun.getT_eq s)
def loose : List Str := (["SeriesError", "InvalidForm", "InvalidSign", "InvalidTable", "InvalidRow", "InvalidOperation", "InvalidCount", "TooMany", "Refused", "is_integer", "is_within", "common_of", "multiple_of", "power_of", "divisors_in", "power_sum_in", "lowest", "require_within", "free_part", "sign_from"] : List Str) ++
  (["times_in", "times_in_signs", "MAX_LENGTH", "times_in_rows", "spread_in", "require_row", "MAX_LEVEL", "MOST_TERMS", "MOST_STEP", "Form", "by_sign", "character_of", "require_level", "times_character", "constant_in", "times_forms", "spread_form", "require_form", "require_integer", "constant"] : List Str) ++
  (["spread", "MOST_ORDER", "MOST_DERIVED", "MAX_WEIGHT_brackets", "TWELVE", "STEP", "choices", "derived_in", "terms_in", "bracket_row", "lead_row", "steady_row", "require_order", "derived_row", "bracket_terms", "bracket", "steady", "MAX_WEIGHT_sums", "LEAST_WEIGHT", "choices_in"] : List Str) ++
  (["plus_fractions", "bernoullis_to", "beginning_in", "divisor_row", "scaled_row", "sums_form", "sums_of_powers", "_law_dice", "_law_roll", "_law_pick", "_law_one", "_law_first", "_law_met", "_law_right"] : List Str)
theorem head_run (w : World) : HandSHeadRun.RunEq R (PySem.W.view R.prog [83]) hk ob 12000 loose w := by
  intro os
  kernel_rfl
open PySem.W PySem.Calls PyProof.Rows
theorem holds (ok : LawOk es 20 52) : PySem.Challenge.rw_turnseries_k82_errors_of_brackets.Holds := by
  w_on; o_law
  refine HandSHeadRun.head_any (r := R) (q := PySem.W.view R.prog [83]) (H := hk) (ob := ob) (M := 12000) (loose := loose) (d := HandSHeadRun.topDef R.prog 83) (kwd := []) ob_eq
    (by kernel_rfl) (fun s => by kernel_rfl) head_run (by kernel_rfl) (by kernel_rfl) (by kernel_rfl) (by rfl) (by first | assumption | decide +kernel) (by decide +kernel) ⟨rfl, rfl, rfl, rfl, rfl, by decide +kernel⟩ ?hw ?hc
  case hw => w_witness2
  case hc => exact walk_ev (l := PySem.Challenge.rw_turnseries_k82_errors_of_brackets) (n := 20) (kl := 52) rfl (by kernel_rfl) ⟨rfl, by decide, by decide⟩ (by kernel_rfl) good src ok
end Pf

set_option Elab.async false
set_option linter.all false
set_option maxRecDepth 100000
set_option maxHeartbeats 1000000
namespace Pf
open PySem L2 Ev
abbrev T := tabT es
/-! dice -/
section
variable {m : Mem} {k : Nat} {a b c : Int}
/-- a roll: a number within, other dice -/
theorem roll_run {t : Int} (h : m.get k = some (dL a b c)) (ht : 0 < t) (ht2 : t ≤ 1000000) : ∃ r a' b' c', (0 ≤ r ∧ r < t) ∧ ∀ n, run T (n + 3) 46 [.ref k, .int t] m = .ok (.int r) (m.put k (dL a' b' c')) := by
  have t0 : decide (t = 0) = false := decide_eq_false (by omega)
  by_cases ha : 0 < a
  · have h1 : (m.put k (dL (a.fdiv t) b c)).nx = m.nx := rfl
    refine ⟨a.fmod t, a.fdiv t, b, c, fmod_in ht, fun n => ?_⟩
    rw [run_at (f := e46.fn) rfl rfl]
    simp only [tdS_same, tdS_put, ix30, ix31, ix32, ix40, ix41, ix42, ix43, ix20, ix21, Ent.fn, startR, denS, den, asV, asS, asT, consM, lstM, bin2, negM, testM, sel_t, sel_f, selAnd, selOr, selNot, truth_bl, iteM, bandM, borM, Ev.notM, chainM, callM, bltM, partM, partD, sliceM, rng1M, rng2M, tnilM, tconsM, tnmM, noX, Out.bind, Out.st, opt, okk, getR, List.map, List.replicate, List.append, List.length, List.set, Nat.sub, HAppend.hAppend, Append.append, addF, subF, ltM, leM, gtM, geM, eqM, neM, fin, bltF, one, two, onSeq, onInt, onLst, onSome, seqOf, len0, len1, len2, len3, len4, len5, intF, isaF, tyOf, isaT, E.isNo, Bool.not_true, Bool.not_false, e46, ixd0 h, decide_eq_true ha, modF t0, fdivF t0 (blt_log (by omega) (by omega)), tsubM, setd0 h, finM_nx h1]
  · have hg : (m.put k (dL a b (c + 1))).get k = some (dL a b (c + 1)) := get_put_same h
    have h1 : (m.put k (dL a b (c + 1))).nx = m.nx := rfl
    have b3 := fmod_in (i := b + 86028157 * (c + 1)) (t := 2305843009213693951) (by decide)
    have b64a : b64 ((b + 86028157 * (c + 1)).fmod 2305843009213693951) = true := by
      simp only [b64, Bool.and_eq_true, decide_eq_true_eq]
      omega
    have k1 : b64 86028157 = true := by decide
    have k2 : b64 191 = true := by decide
    have k3 : b64 15485867 = true := by decide
    have z1 : decide ((2305843009213693951 : Int) = 0) = false := by decide
    have z2 : decide ((2305843009213693907 : Int) = 0) = false := by decide
    have z3 : decide ((65579 : Int) = 0) = false := by decide
    have z4 : Nat.blt (65579 : Int).natAbs.log2 9000 = true := by decide +kernel
    refine ⟨_, a, b, c + 1, fmod_in (i := (((((b + 86028157 * (c + 1)).fmod 2305843009213693951) * ((b + 86028157 * (c + 1)).fmod 2305843009213693951) + 191 * (c + 1)).fmod 2305843009213693907) * 15485867 + (b + 86028157 * (c + 1)).fmod 2305843009213693951).fdiv 65579) ht, fun n => ?_⟩
    rw [run_at (f := e46.fn) rfl rfl]
    simp only [tdS_same, tdS_put, ix30, ix31, ix32, ix40, ix41, ix42, ix43, ix20, ix21, Ent.fn, startR, denS, den, asV, asS, asT, consM, lstM, bin2, negM, testM, sel_t, sel_f, selAnd, selOr, selNot, truth_bl, iteM, bandM, borM, Ev.notM, chainM, callM, bltM, partM, partD, sliceM, rng1M, rng2M, tnilM, tconsM, tnmM, noX, Out.bind, Out.st, opt, okk, getR, List.map, List.replicate, List.append, List.length, List.set, Nat.sub, HAppend.hAppend, Append.append, addF, subF, ltM, leM, gtM, geM, eqM, neM, fin, bltF, one, two, onSeq, onInt, onLst, onSome, seqOf, len0, len1, len2, len3, len4, len5, intF, isaF, tyOf, isaT, E.isNo, Bool.not_true, Bool.not_false, e46, ixd0 h, decide_eq_false ha, ixd2 h, tsubM, setd2 h, ixd1 hg, ixd2 hg, mulF_l, mulF_r, k1, k2, k3, b64a, modF, z1, z2, z3, z4, fdivF, t0, finM_nx h1]
/-- a pick: one of the items -/
theorem pick_run {w : Nat} {xs : List D} (h : m.get k = some (dL a b c)) (hw : w ≠ k) (hl : m.lst w = some xs) (h0 : 0 < xs.length) (h1 : xs.length ≤ 1000) : ∃ x a' b' c', x ∈ xs ∧ ∀ n, run T (n + 4) 47 [.ref k, .ref w] m = .ok x (m.put k (dL a' b' c')) := by
  obtain ⟨r, a', b', c', hr, hh⟩ := roll_run (t := xs.length) h (by omega) (by omega)
  obtain ⟨x, hx, e⟩ := atI_in (xs := xs) hr.1 hr.2
  refine ⟨x, a', b', c', hx, fun n => ?_⟩
  rw [run_at (n := n + 1) (f := e47.fn) rfl rfl]
  have hn : lenF (.ref w) m = .ok (.int xs.length) m := bltLen hl
  have hi : ixF (.ref w) (.int r) (m.put k (dL a' b' c')) = .ok x (m.put k (dL a' b' c')) := by
    show (match (m.put k (dL a' b' c')).lst w with | some ds => opt (L2.atI ds r) (m.put k (dL a' b' c')) | none => .bad) = _
    rw [lst_put_ne hw, hl]
    show opt (L2.atI xs r) _ = _
    rw [e] <;> rfl
  have hp : (m.put k (dL a' b' c')).nx = m.nx := rfl
  simp only [tdS_same, tdS_put, ix30, ix31, ix32, ix40, ix41, ix42, ix43, ix20, ix21, Ent.fn, startR, denS, den, asV, asS, asT, consM, lstM, bin2, negM, testM, sel_t, sel_f, selAnd, selOr, selNot, truth_bl, iteM, bandM, borM, Ev.notM, chainM, callM, bltM, partM, partD, sliceM, rng1M, rng2M, tnilM, tconsM, tnmM, noX, Out.bind, Out.st, opt, okk, getR, List.map, List.replicate, List.append, List.length, List.set, Nat.sub, HAppend.hAppend, Append.append, addF, subF, ltM, leM, gtM, geM, eqM, neM, fin, bltF, one, two, onSeq, onInt, onLst, onSome, seqOf, len0, len1, len2, len3, len4, len5, intF, isaF, tyOf, isaT, E.isNo, Bool.not_true, Bool.not_false, e47, hn, hh, hi, finM_nx hp]
/-- a right one or a wrong one -/
theorem one_run {w : Nat} {v : D} {xs : List D} (h : m.get k = some (dL a b c)) (hw : w ≠ k) (hl : m.lst w = some xs) (h0 : 0 < xs.length) (h1 : xs.length ≤ 1000) :
    ∃ x t a' b' c', ((t = false ∧ x = v) ∨ (t = true ∧ x ∈ xs)) ∧ ∀ n, run T (n + 5) 48 [.ref k, v, .ref w] m = .ok (.tup [x, .bl t]) (m.put k (dL a' b' c')) := by
  obtain ⟨r, a', b', c', hr, hh⟩ := roll_run (t := 3) h (by omega) (by omega)
  have hp : ∀ a b c, (m.put k (dL a b c)).nx = m.nx := fun _ _ _ => rfl
  by_cases h3 : 0 < r
  · refine ⟨v, false, a', b', c', .inl ⟨rfl, rfl⟩, fun n => ?_⟩
    rw [run_at (n := n + 2) (f := e48.fn) rfl rfl]
    simp only [tdS_same, tdS_put, ix30, ix31, ix32, ix40, ix41, ix42, ix43, ix20, ix21, Ent.fn, startR, denS, den, asV, asS, asT, consM, lstM, bin2, negM, testM, sel_t, sel_f, selAnd, selOr, selNot, truth_bl, iteM, bandM, borM, Ev.notM, chainM, callM, bltM, partM, partD, sliceM, rng1M, rng2M, tnilM, tconsM, tnmM, noX, Out.bind, Out.st, opt, okk, getR, List.map, List.replicate, List.append, List.length, List.set, Nat.sub, HAppend.hAppend, Append.append, addF, subF, ltM, leM, gtM, geM, eqM, neM, fin, bltF, one, two, onSeq, onInt, onLst, onSome, seqOf, len0, len1, len2, len3, len4, len5, intF, isaF, tyOf, isaT, E.isNo, Bool.not_true, Bool.not_false, e48, hh, decide_eq_true h3, finM_nx (hp _ _ _)]
  · obtain ⟨x, a2, b2, c2, hx, hh2⟩ := pick_run (xs := xs) (get_put_same h (o := dL a' b' c')) hw (by rw [lst_put_ne hw]; exact hl) h0 h1
    refine ⟨x, true, a2, b2, c2, .inr ⟨rfl, hx⟩, fun n => ?_⟩
    rw [run_at (n := n + 2) (f := e48.fn) rfl rfl]
    have t1 : ∀ ρ, tdS m.nx ρ (m.put k (dL a' b' c')) = m.put k (dL a' b' c') := fun ρ => tdS_nx rfl
    rw [put_put] at hh2
    simp only [tdS_same, tdS_put, ix30, ix31, ix32, ix40, ix41, ix42, ix43, ix20, ix21, Ent.fn, startR, denS, den, asV, asS, asT, consM, lstM, bin2, negM, testM, sel_t, sel_f, selAnd, selOr, selNot, truth_bl, iteM, bandM, borM, Ev.notM, chainM, callM, bltM, partM, partD, sliceM, rng1M, rng2M, tnilM, tconsM, tnmM, noX, Out.bind, Out.st, opt, okk, getR, List.map, List.replicate, List.append, List.length, List.set, Nat.sub, HAppend.hAppend, Append.append, addF, subF, ltM, leM, gtM, geM, eqM, neM, fin, bltF, one, two, onSeq, onInt, onLst, onSome, seqOf, len0, len1, len2, len3, len4, len5, intF, isaF, tyOf, isaT, E.isNo, Bool.not_true, Bool.not_false, e48, hh, decide_eq_false h3, t1, hh2, finM_nx (hp _ _ _)]
end
section
variable {n : Nat} {ρ : Rho} {m m1 m2 : Mem} {a b c : Int}
theorem one_st {i j w : Nat} {v : D} {xs : List D} {R W : E} (h0 : getR ρ 0 = some (.ref 1)) (hR : (den (Lv T (n + 3)) R).e ρ m = .ok v m1) (hW : (den (Lv T (n + 3)) W).e ρ m1 = .ok (.ref w) m2)
    (hd : m2.get 1 = some (dL a b c)) (hw : w ≠ 1) (hl : m2.lst w = some xs) (x0 : 0 < xs.length) (x1 : xs.length ≤ 1000) :
    ∃ x t a' b' c', ((t = false ∧ x = v) ∨ (t = true ∧ x ∈ xs)) ∧ denS (Lv T (n + 3)) (.asg (.ttup (.tcons (.tnm i) (.tcons (.tnm j) .tnil))) (.call 48 (.cons (.var 0) (.cons R (.cons W .nil))))) ρ m = .nx ((ρ.set i (some x)).set j (some (.bl t))) (m2.put 1 (dL a' b' c')) := by
  obtain ⟨x, t, a', b', c', hx, e⟩ := one_run (v := v) hd hw hl x0 x1
  refine ⟨x, t, a', b', c', hx, ?_⟩
  simp only [tdS_same, tdS_put, ix30, ix31, ix32, ix40, ix41, ix42, ix43, ix20, ix21, Ent.fn, startR, denS, den, asV, asS, asT, consM, lstM, bin2, negM, testM, sel_t, sel_f, selAnd, selOr, selNot, truth_bl, iteM, bandM, borM, Ev.notM, chainM, callM, bltM, partM, partD, sliceM, rng1M, rng2M, tnilM, tconsM, tnmM, noX, Out.bind, Out.st, opt, okk, getR, List.map, List.replicate, List.append, List.length, List.set, Nat.sub, HAppend.hAppend, Append.append, addF, subF, ltM, leM, gtM, geM, eqM, neM, fin, bltF, one, two, onSeq, onInt, onLst, onSome, seqOf, len0, len1, len2, len3, len4, len5, intF, isaF, tyOf, isaT, E.isNo, Bool.not_true, Bool.not_false, h0, hR, hW, e]
theorem pick_e {w : Nat} {xs : List D} {W : E} (h0 : getR ρ 0 = some (.ref 1)) (hW : (den (Lv T (n + 3)) W).e ρ m = .ok (.ref w) m1)
    (hd : m1.get 1 = some (dL a b c)) (hw : w ≠ 1) (hl : m1.lst w = some xs) (x0 : 0 < xs.length) (x1 : xs.length ≤ 1000) :
    ∃ x a' b' c', x ∈ xs ∧ (den (Lv T (n + 3)) (.call 47 (.cons (.var 0) (.cons W .nil)))).e ρ m = .ok x (m1.put 1 (dL a' b' c')) := by
  obtain ⟨x, a', b', c', hx, e⟩ := pick_run hd hw hl x0 x1
  refine ⟨x, a', b', c', hx, ?_⟩
  simp only [tdS_same, tdS_put, ix30, ix31, ix32, ix40, ix41, ix42, ix43, ix20, ix21, Ent.fn, startR, denS, den, asV, asS, asT, consM, lstM, bin2, negM, testM, sel_t, sel_f, selAnd, selOr, selNot, truth_bl, iteM, bandM, borM, Ev.notM, chainM, callM, bltM, partM, partD, sliceM, rng1M, rng2M, tnilM, tconsM, tnmM, noX, Out.bind, Out.st, opt, okk, getR, List.map, List.replicate, List.append, List.length, List.set, Nat.sub, HAppend.hAppend, Append.append, addF, subF, ltM, leM, gtM, geM, eqM, neM, fin, bltF, one, two, onSeq, onInt, onLst, onSome, seqOf, len0, len1, len2, len3, len4, len5, intF, isaF, tyOf, isaT, E.isNo, Bool.not_true, Bool.not_false, h0, hW, e]
theorem roll_e {t : Int} {W : E} (h0 : getR ρ 0 = some (.ref 1)) (hd : m.get 1 = some (dL a b c)) (ht : 0 < t) (ht2 : t ≤ 1000000) :
    ∃ r a' b' c', (0 ≤ r ∧ r < t) ∧ (den (Lv T (n + 3)) (.call 46 (.cons (.var 0) (.cons (.const (.int t)) .nil)))).e ρ m = .ok (.int r) (m.put 1 (dL a' b' c')) := by
  obtain ⟨r, a', b', c', hr, e⟩ := roll_run hd ht ht2
  refine ⟨r, a', b', c', hr, ?_⟩
  simp only [tdS_same, tdS_put, ix30, ix31, ix32, ix40, ix41, ix42, ix43, ix20, ix21, Ent.fn, startR, denS, den, asV, asS, asT, consM, lstM, bin2, negM, testM, sel_t, sel_f, selAnd, selOr, selNot, truth_bl, iteM, bandM, borM, Ev.notM, chainM, callM, bltM, partM, partD, sliceM, rng1M, rng2M, tnilM, tconsM, tnmM, noX, Out.bind, Out.st, opt, okk, getR, List.map, List.replicate, List.append, List.length, List.set, Nat.sub, HAppend.hAppend, Append.append, addF, subF, ltM, leM, gtM, geM, eqM, neM, fin, bltF, one, two, onSeq, onInt, onLst, onSome, seqOf, len0, len1, len2, len3, len4, len5, intF, isaF, tyOf, isaT, E.isNo, Bool.not_true, Bool.not_false, h0, e]
end
end Pf

set_option Elab.async false
set_option linter.all false
set_option maxRecDepth 100000
set_option maxHeartbeats 0
namespace Pf
open PySem L2 Ev
abbrev V16 : Fns := Lv T 16
theorem dice : Dice V16 46 47 48 := ⟨fun m a b c t h h0 h1 => by
    obtain ⟨r, a', b', c', hr, e⟩ := roll_run (t := t) h h0 h1
    exact ⟨r, a', b', c', hr, e 15⟩, fun m a b c w xs h hw hl h0 h1 => by
    obtain ⟨x, a', b', c', hx, e⟩ := pick_run h hw hl h0 h1
    exact ⟨x, a', b', c', hx, e 14⟩, fun m a b c v w xs h hw hl h0 h1 => by
    obtain ⟨x, t, a', b', c', hx, e⟩ := one_run (v := v) h hw hl h0 h1
    exact ⟨x, t, a', b', c', hx, e 13⟩⟩
def bR : S := e51.body
def L0 : List Ev.St := [⟨[some (.ref 1), none, none, none, none, none, none, none, none, none, none, none, none, none, none, none, none, none], 2, []⟩]
def L1c0 : List Ev.St := [⟨[some (.ref 1), none, some (.ref 3), some (.bl false), some (.ref 4), some (.bl false), none, none, none, none, none, none, none, none, none, none, none, none], 5, [(4, (.ins 0 [some (.tup []), some (.int (1)), some .opq, some (.int (1)), some (.int (1)), some (.int (8))])), (3, (.ins 0 [some (.tup []), some (.int (1)), some .opq, some (.int (1)), some (.int (1)), some (.int (4))])), (2, (.lst [.non, (.int (0)), (.tup [(.int (1)), (.int (240))]), (.str "form"), .emp, (.bl true)]))]⟩,
  ⟨[some (.ref 1), none, some (.ref 3), some (.bl false), some .non, some (.bl true), none, none, none, none, none, none, none, none, none, none, none, none], 4, [(3, (.ins 0 [some (.tup []), some (.int (1)), some .opq, some (.int (1)), some (.int (1)), some (.int (4))])), (2, (.lst [.non, (.int (0)), (.tup [(.int (1)), (.int (240))]), (.str "form"), .emp, (.bl true)]))]⟩,
  ⟨[some (.ref 1), none, some (.ref 3), some (.bl false), some (.int (0)), some (.bl true), none, none, none, none, none, none, none, none, none, none, none, none], 4, [(3, (.ins 0 [some (.tup []), some (.int (1)), some .opq, some (.int (1)), some (.int (1)), some (.int (4))])), (2, (.lst [.non, (.int (0)), (.tup [(.int (1)), (.int (240))]), (.str "form"), .emp, (.bl true)]))]⟩]
def L1c1 : List Ev.St := [⟨[some (.ref 1), none, some (.ref 3), some (.bl false), some (.tup [(.int (1)), (.int (240))]), some (.bl true), none, none, none, none, none, none, none, none, none, none, none, none], 4, [(3, (.ins 0 [some (.tup []), some (.int (1)), some .opq, some (.int (1)), some (.int (1)), some (.int (4))])), (2, (.lst [.non, (.int (0)), (.tup [(.int (1)), (.int (240))]), (.str "form"), .emp, (.bl true)]))]⟩,
  ⟨[some (.ref 1), none, some (.ref 3), some (.bl false), some (.str "form"), some (.bl true), none, none, none, none, none, none, none, none, none, none, none, none], 4, [(3, (.ins 0 [some (.tup []), some (.int (1)), some .opq, some (.int (1)), some (.int (1)), some (.int (4))])), (2, (.lst [.non, (.int (0)), (.tup [(.int (1)), (.int (240))]), (.str "form"), .emp, (.bl true)]))]⟩,
  ⟨[some (.ref 1), none, some (.ref 3), some (.bl false), some .emp, some (.bl true), none, none, none, none, none, none, none, none, none, none, none, none], 4, [(3, (.ins 0 [some (.tup []), some (.int (1)), some .opq, some (.int (1)), some (.int (1)), some (.int (4))])), (2, (.lst [.non, (.int (0)), (.tup [(.int (1)), (.int (240))]), (.str "form"), .emp, (.bl true)]))]⟩]
def L1c2 : List Ev.St := [⟨[some (.ref 1), none, some (.ref 3), some (.bl false), some (.bl true), some (.bl true), none, none, none, none, none, none, none, none, none, none, none, none], 4, [(3, (.ins 0 [some (.tup []), some (.int (1)), some .opq, some (.int (1)), some (.int (1)), some (.int (4))])), (2, (.lst [.non, (.int (0)), (.tup [(.int (1)), (.int (240))]), (.str "form"), .emp, (.bl true)]))]⟩,
  ⟨[some (.ref 1), none, some .non, some (.bl true), some (.ref 3), some (.bl false), none, none, none, none, none, none, none, none, none, none, none, none], 4, [(3, (.ins 0 [some (.tup []), some (.int (1)), some .opq, some (.int (1)), some (.int (1)), some (.int (8))])), (2, (.lst [.non, (.int (0)), (.tup [(.int (1)), (.int (240))]), (.str "form"), .emp, (.bl true)]))]⟩,
  ⟨[some (.ref 1), none, some .non, some (.bl true), some .non, some (.bl true), none, none, none, none, none, none, none, none, none, none, none, none], 2, []⟩]
def L1c3 : List Ev.St := [⟨[some (.ref 1), none, some .non, some (.bl true), some (.int (0)), some (.bl true), none, none, none, none, none, none, none, none, none, none, none, none], 2, []⟩,
  ⟨[some (.ref 1), none, some .non, some (.bl true), some (.tup [(.int (1)), (.int (240))]), some (.bl true), none, none, none, none, none, none, none, none, none, none, none, none], 2, []⟩,
  ⟨[some (.ref 1), none, some .non, some (.bl true), some (.str "form"), some (.bl true), none, none, none, none, none, none, none, none, none, none, none, none], 2, []⟩]
def L1c4 : List Ev.St := [⟨[some (.ref 1), none, some .non, some (.bl true), some .emp, some (.bl true), none, none, none, none, none, none, none, none, none, none, none, none], 2, []⟩,
  ⟨[some (.ref 1), none, some .non, some (.bl true), some (.bl true), some (.bl true), none, none, none, none, none, none, none, none, none, none, none, none], 2, []⟩,
  ⟨[some (.ref 1), none, some (.int (0)), some (.bl true), some (.ref 3), some (.bl false), none, none, none, none, none, none, none, none, none, none, none, none], 4, [(3, (.ins 0 [some (.tup []), some (.int (1)), some .opq, some (.int (1)), some (.int (1)), some (.int (8))])), (2, (.lst [.non, (.int (0)), (.tup [(.int (1)), (.int (240))]), (.str "form"), .emp, (.bl true)]))]⟩]
def L1c5 : List Ev.St := [⟨[some (.ref 1), none, some (.int (0)), some (.bl true), some .non, some (.bl true), none, none, none, none, none, none, none, none, none, none, none, none], 2, []⟩,
  ⟨[some (.ref 1), none, some (.int (0)), some (.bl true), some (.int (0)), some (.bl true), none, none, none, none, none, none, none, none, none, none, none, none], 2, []⟩,
  ⟨[some (.ref 1), none, some (.int (0)), some (.bl true), some (.tup [(.int (1)), (.int (240))]), some (.bl true), none, none, none, none, none, none, none, none, none, none, none, none], 2, []⟩]
def L1c6 : List Ev.St := [⟨[some (.ref 1), none, some (.int (0)), some (.bl true), some (.str "form"), some (.bl true), none, none, none, none, none, none, none, none, none, none, none, none], 2, []⟩,
  ⟨[some (.ref 1), none, some (.int (0)), some (.bl true), some .emp, some (.bl true), none, none, none, none, none, none, none, none, none, none, none, none], 2, []⟩,
  ⟨[some (.ref 1), none, some (.int (0)), some (.bl true), some (.bl true), some (.bl true), none, none, none, none, none, none, none, none, none, none, none, none], 2, []⟩]
def L1c7 : List Ev.St := [⟨[some (.ref 1), none, some (.tup [(.int (1)), (.int (240))]), some (.bl true), some (.ref 3), some (.bl false), none, none, none, none, none, none, none, none, none, none, none, none], 4, [(3, (.ins 0 [some (.tup []), some (.int (1)), some .opq, some (.int (1)), some (.int (1)), some (.int (8))])), (2, (.lst [.non, (.int (0)), (.tup [(.int (1)), (.int (240))]), (.str "form"), .emp, (.bl true)]))]⟩,
  ⟨[some (.ref 1), none, some (.tup [(.int (1)), (.int (240))]), some (.bl true), some .non, some (.bl true), none, none, none, none, none, none, none, none, none, none, none, none], 2, []⟩,
  ⟨[some (.ref 1), none, some (.tup [(.int (1)), (.int (240))]), some (.bl true), some (.int (0)), some (.bl true), none, none, none, none, none, none, none, none, none, none, none, none], 2, []⟩]
def L1c8 : List Ev.St := [⟨[some (.ref 1), none, some (.tup [(.int (1)), (.int (240))]), some (.bl true), some (.tup [(.int (1)), (.int (240))]), some (.bl true), none, none, none, none, none, none, none, none, none, none, none, none], 2, []⟩,
  ⟨[some (.ref 1), none, some (.tup [(.int (1)), (.int (240))]), some (.bl true), some (.str "form"), some (.bl true), none, none, none, none, none, none, none, none, none, none, none, none], 2, []⟩,
  ⟨[some (.ref 1), none, some (.tup [(.int (1)), (.int (240))]), some (.bl true), some .emp, some (.bl true), none, none, none, none, none, none, none, none, none, none, none, none], 2, []⟩]
def L1c9 : List Ev.St := [⟨[some (.ref 1), none, some (.tup [(.int (1)), (.int (240))]), some (.bl true), some (.bl true), some (.bl true), none, none, none, none, none, none, none, none, none, none, none, none], 2, []⟩,
  ⟨[some (.ref 1), none, some (.str "form"), some (.bl true), some (.ref 3), some (.bl false), none, none, none, none, none, none, none, none, none, none, none, none], 4, [(3, (.ins 0 [some (.tup []), some (.int (1)), some .opq, some (.int (1)), some (.int (1)), some (.int (8))])), (2, (.lst [.non, (.int (0)), (.tup [(.int (1)), (.int (240))]), (.str "form"), .emp, (.bl true)]))]⟩,
  ⟨[some (.ref 1), none, some (.str "form"), some (.bl true), some .non, some (.bl true), none, none, none, none, none, none, none, none, none, none, none, none], 2, []⟩]
def L1c10 : List Ev.St := [⟨[some (.ref 1), none, some (.str "form"), some (.bl true), some (.int (0)), some (.bl true), none, none, none, none, none, none, none, none, none, none, none, none], 2, []⟩,
  ⟨[some (.ref 1), none, some (.str "form"), some (.bl true), some (.tup [(.int (1)), (.int (240))]), some (.bl true), none, none, none, none, none, none, none, none, none, none, none, none], 2, []⟩,
  ⟨[some (.ref 1), none, some (.str "form"), some (.bl true), some (.str "form"), some (.bl true), none, none, none, none, none, none, none, none, none, none, none, none], 2, []⟩]
def L1c11 : List Ev.St := [⟨[some (.ref 1), none, some (.str "form"), some (.bl true), some .emp, some (.bl true), none, none, none, none, none, none, none, none, none, none, none, none], 2, []⟩,
  ⟨[some (.ref 1), none, some (.str "form"), some (.bl true), some (.bl true), some (.bl true), none, none, none, none, none, none, none, none, none, none, none, none], 2, []⟩,
  ⟨[some (.ref 1), none, some .emp, some (.bl true), some (.ref 3), some (.bl false), none, none, none, none, none, none, none, none, none, none, none, none], 4, [(3, (.ins 0 [some (.tup []), some (.int (1)), some .opq, some (.int (1)), some (.int (1)), some (.int (8))])), (2, (.lst [.non, (.int (0)), (.tup [(.int (1)), (.int (240))]), (.str "form"), .emp, (.bl true)]))]⟩]
def L1c12 : List Ev.St := [⟨[some (.ref 1), none, some .emp, some (.bl true), some .non, some (.bl true), none, none, none, none, none, none, none, none, none, none, none, none], 2, []⟩,
  ⟨[some (.ref 1), none, some .emp, some (.bl true), some (.int (0)), some (.bl true), none, none, none, none, none, none, none, none, none, none, none, none], 2, []⟩,
  ⟨[some (.ref 1), none, some .emp, some (.bl true), some (.tup [(.int (1)), (.int (240))]), some (.bl true), none, none, none, none, none, none, none, none, none, none, none, none], 2, []⟩]
def L1c13 : List Ev.St := [⟨[some (.ref 1), none, some .emp, some (.bl true), some (.str "form"), some (.bl true), none, none, none, none, none, none, none, none, none, none, none, none], 2, []⟩,
  ⟨[some (.ref 1), none, some .emp, some (.bl true), some .emp, some (.bl true), none, none, none, none, none, none, none, none, none, none, none, none], 2, []⟩,
  ⟨[some (.ref 1), none, some .emp, some (.bl true), some (.bl true), some (.bl true), none, none, none, none, none, none, none, none, none, none, none, none], 2, []⟩]
def L1c14 : List Ev.St := [⟨[some (.ref 1), none, some (.bl true), some (.bl true), some (.ref 3), some (.bl false), none, none, none, none, none, none, none, none, none, none, none, none], 4, [(3, (.ins 0 [some (.tup []), some (.int (1)), some .opq, some (.int (1)), some (.int (1)), some (.int (8))])), (2, (.lst [.non, (.int (0)), (.tup [(.int (1)), (.int (240))]), (.str "form"), .emp, (.bl true)]))]⟩,
  ⟨[some (.ref 1), none, some (.bl true), some (.bl true), some .non, some (.bl true), none, none, none, none, none, none, none, none, none, none, none, none], 2, []⟩,
  ⟨[some (.ref 1), none, some (.bl true), some (.bl true), some (.int (0)), some (.bl true), none, none, none, none, none, none, none, none, none, none, none, none], 2, []⟩]
def L1c15 : List Ev.St := [⟨[some (.ref 1), none, some (.bl true), some (.bl true), some (.tup [(.int (1)), (.int (240))]), some (.bl true), none, none, none, none, none, none, none, none, none, none, none, none], 2, []⟩,
  ⟨[some (.ref 1), none, some (.bl true), some (.bl true), some (.str "form"), some (.bl true), none, none, none, none, none, none, none, none, none, none, none, none], 2, []⟩,
  ⟨[some (.ref 1), none, some (.bl true), some (.bl true), some .emp, some (.bl true), none, none, none, none, none, none, none, none, none, none, none, none], 2, []⟩]
def L1c16 : List Ev.St := [⟨[some (.ref 1), none, some (.bl true), some (.bl true), some (.bl true), some (.bl true), none, none, none, none, none, none, none, none, none, none, none, none], 2, []⟩]
def L1 : List Ev.St := L1c0 ++ (L1c1 ++ (L1c2 ++ (L1c3 ++ (L1c4 ++ (L1c5 ++ (L1c6 ++ (L1c7 ++ (L1c8 ++ (L1c9 ++ (L1c10 ++ (L1c11 ++ (L1c12 ++ (L1c13 ++ (L1c14 ++ (L1c15 ++ (L1c16))))))))))))))))
def L2c0 : List Ev.St := [⟨[some (.ref 1), none, none, none, none, none, some (.int (0)), some (.bl false), none, none, none, none, none, none, none, none, none, none], 2, []⟩,
  ⟨[some (.ref 1), none, none, none, none, none, some (.int (1)), some (.bl false), none, none, none, none, none, none, none, none, none, none], 2, []⟩,
  ⟨[some (.ref 1), none, none, none, none, none, some (.int (10)), some (.bl false), none, none, none, none, none, none, none, none, none, none], 2, []⟩]
def L2c1 : List Ev.St := [⟨[some (.ref 1), none, none, none, none, none, some (.int (-1)), some (.bl true), none, none, none, none, none, none, none, none, none, none], 2, []⟩,
  ⟨[some (.ref 1), none, none, none, none, none, some (.int (11)), some (.bl true), none, none, none, none, none, none, none, none, none, none], 2, []⟩,
  ⟨[some (.ref 1), none, none, none, none, none, some .non, some (.bl true), none, none, none, none, none, none, none, none, none, none], 2, []⟩]
def L2c2 : List Ev.St := [⟨[some (.ref 1), none, none, none, none, none, some (.bl true), some (.bl true), none, none, none, none, none, none, none, none, none, none], 2, []⟩,
  ⟨[some (.ref 1), none, none, none, none, none, some (.str "1"), some (.bl true), none, none, none, none, none, none, none, none, none, none], 2, []⟩,
  ⟨[some (.ref 1), none, none, none, none, none, some (.tup [(.int (1))]), some (.bl true), none, none, none, none, none, none, none, none, none, none], 2, []⟩]
def L2 : List Ev.St := L2c0 ++ (L2c1 ++ (L2c2))
def L3 : List Ev.St := [⟨[some (.ref 1), none, none, none, none, none, none, none, none, none, none, none, none, none, none, none, none, none], 2, []⟩]
def L4c0 : List Ev.St := [⟨[some (.ref 1), none, none, none, none, none, none, none, none, none, none, none, none, none, some (.tup [(.int (1)), (.int (2)), (.int (3))]), some (.bl false), some (.int (0)), some (.bl false)], 2, []⟩,
  ⟨[some (.ref 1), none, none, none, none, none, none, none, none, none, none, none, none, none, some (.tup [(.int (1)), (.int (2)), (.int (3))]), some (.bl false), some (.int (1)), some (.bl false)], 2, []⟩,
  ⟨[some (.ref 1), none, none, none, none, none, none, none, none, none, none, none, none, none, some (.tup [(.int (1)), (.int (2)), (.int (3))]), some (.bl false), some (.int (100)), some (.bl false)], 2, []⟩]
def L4c1 : List Ev.St := [⟨[some (.ref 1), none, none, none, none, none, none, none, none, none, none, none, none, none, some (.tup [(.int (1)), (.int (2)), (.int (3))]), some (.bl false), some (.int (-1)), some (.bl true)], 2, []⟩,
  ⟨[some (.ref 1), none, none, none, none, none, none, none, none, none, none, none, none, none, some (.tup [(.int (1)), (.int (2)), (.int (3))]), some (.bl false), some (.int (101)), some (.bl true)], 2, []⟩,
  ⟨[some (.ref 1), none, none, none, none, none, none, none, none, none, none, none, none, none, some (.tup [(.int (1)), (.int (2)), (.int (3))]), some (.bl false), some .non, some (.bl true)], 2, []⟩]
def L4c2 : List Ev.St := [⟨[some (.ref 1), none, none, none, none, none, none, none, none, none, none, none, none, none, some (.tup [(.int (1)), (.int (2)), (.int (3))]), some (.bl false), some (.bl true), some (.bl true)], 2, []⟩,
  ⟨[some (.ref 1), none, none, none, none, none, none, none, none, none, none, none, none, none, some (.tup [(.int (1)), (.int (2)), (.int (3))]), some (.bl false), some (.str "1"), some (.bl true)], 2, []⟩,
  ⟨[some (.ref 1), none, none, none, none, none, none, none, none, none, none, none, none, none, some .non, some (.bl true), some (.int (0)), some (.bl false)], 2, []⟩]
def L4c3 : List Ev.St := [⟨[some (.ref 1), none, none, none, none, none, none, none, none, none, none, none, none, none, some .non, some (.bl true), some (.int (1)), some (.bl false)], 2, []⟩,
  ⟨[some (.ref 1), none, none, none, none, none, none, none, none, none, none, none, none, none, some .non, some (.bl true), some (.int (100)), some (.bl false)], 2, []⟩,
  ⟨[some (.ref 1), none, none, none, none, none, none, none, none, none, none, none, none, none, some .non, some (.bl true), some (.int (-1)), some (.bl true)], 2, []⟩]
def L4c4 : List Ev.St := [⟨[some (.ref 1), none, none, none, none, none, none, none, none, none, none, none, none, none, some .non, some (.bl true), some (.int (101)), some (.bl true)], 2, []⟩,
  ⟨[some (.ref 1), none, none, none, none, none, none, none, none, none, none, none, none, none, some .non, some (.bl true), some .non, some (.bl true)], 2, []⟩,
  ⟨[some (.ref 1), none, none, none, none, none, none, none, none, none, none, none, none, none, some .non, some (.bl true), some (.bl true), some (.bl true)], 2, []⟩]
def L4c5 : List Ev.St := [⟨[some (.ref 1), none, none, none, none, none, none, none, none, none, none, none, none, none, some .non, some (.bl true), some (.str "1"), some (.bl true)], 2, []⟩,
  ⟨[some (.ref 1), none, none, none, none, none, none, none, none, none, none, none, none, none, some (.tup []), some (.bl true), some (.int (0)), some (.bl false)], 2, []⟩,
  ⟨[some (.ref 1), none, none, none, none, none, none, none, none, none, none, none, none, none, some (.tup []), some (.bl true), some (.int (1)), some (.bl false)], 2, []⟩]
def L4c6 : List Ev.St := [⟨[some (.ref 1), none, none, none, none, none, none, none, none, none, none, none, none, none, some (.tup []), some (.bl true), some (.int (100)), some (.bl false)], 2, []⟩,
  ⟨[some (.ref 1), none, none, none, none, none, none, none, none, none, none, none, none, none, some (.tup []), some (.bl true), some (.int (-1)), some (.bl true)], 2, []⟩,
  ⟨[some (.ref 1), none, none, none, none, none, none, none, none, none, none, none, none, none, some (.tup []), some (.bl true), some (.int (101)), some (.bl true)], 2, []⟩]
def L4c7 : List Ev.St := [⟨[some (.ref 1), none, none, none, none, none, none, none, none, none, none, none, none, none, some (.tup []), some (.bl true), some .non, some (.bl true)], 2, []⟩,
  ⟨[some (.ref 1), none, none, none, none, none, none, none, none, none, none, none, none, none, some (.tup []), some (.bl true), some (.bl true), some (.bl true)], 2, []⟩,
  ⟨[some (.ref 1), none, none, none, none, none, none, none, none, none, none, none, none, none, some (.tup []), some (.bl true), some (.str "1"), some (.bl true)], 2, []⟩]
def L4c8 : List Ev.St := [⟨[some (.ref 1), none, none, none, none, none, none, none, none, none, none, none, none, none, some (.ref 2), some (.bl true), some (.int (0)), some (.bl false)], 3, [(2, (.lst [(.int (1)), (.int (2))]))]⟩,
  ⟨[some (.ref 1), none, none, none, none, none, none, none, none, none, none, none, none, none, some (.ref 2), some (.bl true), some (.int (1)), some (.bl false)], 3, [(2, (.lst [(.int (1)), (.int (2))]))]⟩,
  ⟨[some (.ref 1), none, none, none, none, none, none, none, none, none, none, none, none, none, some (.ref 2), some (.bl true), some (.int (100)), some (.bl false)], 3, [(2, (.lst [(.int (1)), (.int (2))]))]⟩]
def L4c9 : List Ev.St := [⟨[some (.ref 1), none, none, none, none, none, none, none, none, none, none, none, none, none, some (.ref 2), some (.bl true), some (.int (-1)), some (.bl true)], 3, [(2, (.lst [(.int (1)), (.int (2))]))]⟩,
  ⟨[some (.ref 1), none, none, none, none, none, none, none, none, none, none, none, none, none, some (.ref 2), some (.bl true), some (.int (101)), some (.bl true)], 3, [(2, (.lst [(.int (1)), (.int (2))]))]⟩,
  ⟨[some (.ref 1), none, none, none, none, none, none, none, none, none, none, none, none, none, some (.ref 2), some (.bl true), some .non, some (.bl true)], 3, [(2, (.lst [(.int (1)), (.int (2))]))]⟩]
def L4c10 : List Ev.St := [⟨[some (.ref 1), none, none, none, none, none, none, none, none, none, none, none, none, none, some (.ref 2), some (.bl true), some (.bl true), some (.bl true)], 3, [(2, (.lst [(.int (1)), (.int (2))]))]⟩,
  ⟨[some (.ref 1), none, none, none, none, none, none, none, none, none, none, none, none, none, some (.ref 2), some (.bl true), some (.str "1"), some (.bl true)], 3, [(2, (.lst [(.int (1)), (.int (2))]))]⟩,
  ⟨[some (.ref 1), none, none, none, none, none, none, none, none, none, none, none, none, none, some (.tup [(.int (1)), (.bl true)]), some (.bl true), some (.int (0)), some (.bl false)], 2, []⟩]
def L4c11 : List Ev.St := [⟨[some (.ref 1), none, none, none, none, none, none, none, none, none, none, none, none, none, some (.tup [(.int (1)), (.bl true)]), some (.bl true), some (.int (1)), some (.bl false)], 2, []⟩,
  ⟨[some (.ref 1), none, none, none, none, none, none, none, none, none, none, none, none, none, some (.tup [(.int (1)), (.bl true)]), some (.bl true), some (.int (100)), some (.bl false)], 2, []⟩,
  ⟨[some (.ref 1), none, none, none, none, none, none, none, none, none, none, none, none, none, some (.tup [(.int (1)), (.bl true)]), some (.bl true), some (.int (-1)), some (.bl true)], 2, []⟩]
def L4c12 : List Ev.St := [⟨[some (.ref 1), none, none, none, none, none, none, none, none, none, none, none, none, none, some (.tup [(.int (1)), (.bl true)]), some (.bl true), some (.int (101)), some (.bl true)], 2, []⟩,
  ⟨[some (.ref 1), none, none, none, none, none, none, none, none, none, none, none, none, none, some (.tup [(.int (1)), (.bl true)]), some (.bl true), some .non, some (.bl true)], 2, []⟩,
  ⟨[some (.ref 1), none, none, none, none, none, none, none, none, none, none, none, none, none, some (.tup [(.int (1)), (.bl true)]), some (.bl true), some (.bl true), some (.bl true)], 2, []⟩]
def L4c13 : List Ev.St := [⟨[some (.ref 1), none, none, none, none, none, none, none, none, none, none, none, none, none, some (.tup [(.int (1)), (.bl true)]), some (.bl true), some (.str "1"), some (.bl true)], 2, []⟩,
  ⟨[some (.ref 1), none, none, none, none, none, none, none, none, none, none, none, none, none, some (.str "12"), some (.bl true), some (.int (0)), some (.bl false)], 2, []⟩,
  ⟨[some (.ref 1), none, none, none, none, none, none, none, none, none, none, none, none, none, some (.str "12"), some (.bl true), some (.int (1)), some (.bl false)], 2, []⟩]
def L4c14 : List Ev.St := [⟨[some (.ref 1), none, none, none, none, none, none, none, none, none, none, none, none, none, some (.str "12"), some (.bl true), some (.int (100)), some (.bl false)], 2, []⟩,
  ⟨[some (.ref 1), none, none, none, none, none, none, none, none, none, none, none, none, none, some (.str "12"), some (.bl true), some (.int (-1)), some (.bl true)], 2, []⟩,
  ⟨[some (.ref 1), none, none, none, none, none, none, none, none, none, none, none, none, none, some (.str "12"), some (.bl true), some (.int (101)), some (.bl true)], 2, []⟩]
def L4c15 : List Ev.St := [⟨[some (.ref 1), none, none, none, none, none, none, none, none, none, none, none, none, none, some (.str "12"), some (.bl true), some .non, some (.bl true)], 2, []⟩,
  ⟨[some (.ref 1), none, none, none, none, none, none, none, none, none, none, none, none, none, some (.str "12"), some (.bl true), some (.bl true), some (.bl true)], 2, []⟩,
  ⟨[some (.ref 1), none, none, none, none, none, none, none, none, none, none, none, none, none, some (.str "12"), some (.bl true), some (.str "1"), some (.bl true)], 2, []⟩]
def L4c16 : List Ev.St := [⟨[some (.ref 1), none, none, none, none, none, none, none, none, none, none, none, none, none, some (.tup [(.int (0)), (.int (0)), (.int (0)), (.int (0)), (.int (0)), (.int (0)), (.int (0)), (.int (0)), (.int (0)), (.int (0)), (.int (0)), (.int (0)), (.int (0)), (.int (0)), (.int (0)), (.int (0)), (.int (0)), (.int (0)), (.int (0)), (.int (0)), (.int (0)), (.int (0)), (.int (0)), (.int (0)), (.int (0)), (.int (0)), (.int (0)), (.int (0)), (.int (0)), (.int (0)), (.int (0)), (.int (0)), (.int (0)), (.int (0)), (.int (0)), (.int (0)), (.int (0)), (.int (0)), (.int (0)), (.int (0)), (.int (0)), (.int (0)), (.int (0)), (.int (0)), (.int (0)), (.int (0)), (.int (0)), (.int (0)), (.int (0)), (.int (0)), (.int (0)), (.int (0)), (.int (0)), (.int (0)), (.int (0)), (.int (0)), (.int (0)), (.int (0)), (.int (0)), (.int (0)), (.int (0)), (.int (0)), (.int (0)), (.int (0)), (.int (0)), (.int (0)), (.int (0)), (.int (0)), (.int (0)), (.int (0)), (.int (0)), (.int (0)), (.int (0)), (.int (0)), (.int (0)), (.int (0)), (.int (0)), (.int (0)), (.int (0)), (.int (0)), (.int (0)), (.int (0)), (.int (0)), (.int (0)), (.int (0)), (.int (0)), (.int (0)), (.int (0)), (.int (0)), (.int (0)), (.int (0)), (.int (0)), (.int (0)), (.int (0)), (.int (0)), (.int (0)), (.int (0)), (.int (0)), (.int (0)), (.int (0)), (.int (0)), (.int (0)), (.int (0)), (.int (0)), (.int (0)), (.int (0)), (.int (0)), (.int (0)), (.int (0)), (.int (0)), (.int (0)), (.int (0)), (.int (0)), (.int (0)), (.int (0)), (.int (0)), (.int (0)), (.int (0)), (.int (0)), (.int (0)), (.int (0)), (.int (0)), (.int (0)), (.int (0)), (.int (0)), (.int (0)), (.int (0)), (.int (0)), (.int (0)), (.int (0)), (.int (0)), (.int (0)), (.int (0)), (.int (0)), (.int (0)), (.int (0)), (.int (0)), (.int (0)), (.int (0)), (.int (0)), (.int (0)), (.int (0)), (.int (0)), (.int (0)), (.int (0)), (.int (0)), (.int (0)), (.int (0)), (.int (0)), (.int (0)), (.int (0)), (.int (0)), (.int (0)), (.int (0)), (.int (0)), (.int (0)), (.int (0)), (.int (0)), (.int (0)), (.int (0)), (.int (0)), (.int (0)), (.int (0)), (.int (0)), (.int (0)), (.int (0)), (.int (0)), (.int (0)), (.int (0)), (.int (0)), (.int (0)), (.int (0)), (.int (0)), (.int (0)), (.int (0)), (.int (0)), (.int (0)), (.int (0)), (.int (0)), (.int (0)), (.int (0)), (.int (0)), (.int (0)), (.int (0)), (.int (0)), (.int (0)), (.int (0)), (.int (0)), (.int (0)), (.int (0)), (.int (0)), (.int (0)), (.int (0)), (.int (0)), (.int (0)), (.int (0)), (.int (0)), (.int (0)), (.int (0)), (.int (0)), (.int (0)), (.int (0)), (.int (0)), (.int (0)), (.int (0)), (.int (0)), (.int (0)), (.int (0)), (.int (0)), (.int (0)), (.int (0)), (.int (0)), (.int (0)), (.int (0)), (.int (0)), (.int (0)), (.int (0)), (.int (0)), (.int (0)), (.int (0)), (.int (0)), (.int (0)), (.int (0)), (.int (0)), (.int (0)), (.int (0)), (.int (0)), (.int (0)), (.int (0)), (.int (0)), (.int (0)), (.int (0)), (.int (0)), (.int (0)), (.int (0)), (.int (0)), (.int (0)), (.int (0)), (.int (0)), (.int (0)), (.int (0)), (.int (0)), (.int (0)), (.int (0)), (.int (0)), (.int (0)), (.int (0)), (.int (0)), (.int (0)), (.int (0)), (.int (0)), (.int (0)), (.int (0)), (.int (0)), (.int (0)), (.int (0)), (.int (0)), (.int (0)), (.int (0)), (.int (0)), (.int (0)), (.int (0)), (.int (0)), (.int (0)), (.int (0)), (.int (0)), (.int (0)), (.int (0)), (.int (0)), (.int (0)), (.int (0)), (.int (0)), (.int (0)), (.int (0)), (.int (0)), (.int (0)), (.int (0)), (.int (0)), (.int (0)), (.int (0)), (.int (0)), (.int (0)), (.int (0)), (.int (0)), (.int (0)), (.int (0)), (.int (0)), (.int (0)), (.int (0)), (.int (0)), (.int (0)), (.int (0)), (.int (0)), (.int (0)), (.int (0)), (.int (0)), (.int (0)), (.int (0)), (.int (0)), (.int (0)), (.int (0)), (.int (0)), (.int (0)), (.int (0)), (.int (0)), (.int (0)), (.int (0)), (.int (0)), (.int (0)), (.int (0)), (.int (0)), (.int (0)), (.int (0)), (.int (0)), (.int (0)), (.int (0)), (.int (0)), (.int (0)), (.int (0)), (.int (0)), (.int (0)), (.int (0)), (.int (0)), (.int (0)), (.int (0)), (.int (0)), (.int (0)), (.int (0)), (.int (0)), (.int (0)), (.int (0)), (.int (0)), (.int (0)), (.int (0)), (.int (0)), (.int (0)), (.int (0)), (.int (0)), (.int (0)), (.int (0)), (.int (0)), (.int (0)), (.int (0)), (.int (0)), (.int (0)), (.int (0)), (.int (0)), (.int (0)), (.int (0)), (.int (0)), (.int (0)), (.int (0)), (.int (0)), (.int (0)), (.int (0)), (.int (0)), (.int (0)), (.int (0)), (.int (0)), (.int (0)), (.int (0)), (.int (0)), (.int (0)), (.int (0)), (.int (0)), (.int (0)), (.int (0)), (.int (0)), (.int (0)), (.int (0)), (.int (0)), (.int (0)), (.int (0)), (.int (0)), (.int (0)), (.int (0)), (.int (0)), (.int (0)), (.int (0)), (.int (0)), (.int (0)), (.int (0)), (.int (0)), (.int (0)), (.int (0)), (.int (0)), (.int (0)), (.int (0)), (.int (0)), (.int (0)), (.int (0)), (.int (0)), (.int (0)), (.int (0)), (.int (0)), (.int (0)), (.int (0)), (.int (0)), (.int (0)), (.int (0)), (.int (0)), (.int (0)), (.int (0)), (.int (0)), (.int (0)), (.int (0)), (.int (0)), (.int (0)), (.int (0)), (.int (0)), (.int (0)), (.int (0)), (.int (0)), (.int (0)), (.int (0)), (.int (0)), (.int (0)), (.int (0)), (.int (0)), (.int (0)), (.int (0)), (.int (0)), (.int (0)), (.int (0)), (.int (0)), (.int (0)), (.int (0)), (.int (0)), (.int (0)), (.int (0)), (.int (0)), (.int (0)), (.int (0)), (.int (0)), (.int (0)), (.int (0)), (.int (0)), (.int (0)), (.int (0)), (.int (0)), (.int (0)), (.int (0)), (.int (0)), (.int (0)), (.int (0)), (.int (0)), (.int (0)), (.int (0)), (.int (0)), (.int (0)), (.int (0)), (.int (0)), (.int (0)), (.int (0)), (.int (0)), (.int (0)), (.int (0)), (.int (0)), (.int (0)), (.int (0)), (.int (0)), (.int (0)), (.int (0)), (.int (0)), (.int (0)), (.int (0)), (.int (0)), (.int (0)), (.int (0)), (.int (0)), (.int (0)), (.int (0)), (.int (0)), (.int (0)), (.int (0)), (.int (0)), (.int (0)), (.int (0)), (.int (0)), (.int (0)), (.int (0)), (.int (0)), (.int (0)), (.int (0)), (.int (0)), (.int (0)), (.int (0)), (.int (0)), (.int (0)), (.int (0)), (.int (0)), (.int (0)), (.int (0)), (.int (0)), (.int (0)), (.int (0)), (.int (0)), (.int (0)), (.int (0)), (.int (0)), (.int (0)), (.int (0)), (.int (0)), (.int (0)), (.int (0)), (.int (0)), (.int (0)), (.int (0)), (.int (0)), (.int (0)), (.int (0)), (.int (0)), (.int (0)), (.int (0)), (.int (0)), (.int (0)), (.int (0)), (.int (0)), (.int (0)), (.int (0)), (.int (0)), (.int (0)), (.int (0)), (.int (0)), (.int (0)), (.int (0)), (.int (0)), (.int (0)), (.int (0)), (.int (0)), (.int (0)), (.int (0)), (.int (0)), (.int (0)), (.int (0)), (.int (0)), (.int (0)), (.int (0)), (.int (0)), (.int (0)), (.int (0)), (.int (0)), (.int (0)), (.int (0)), (.int (0)), (.int (0)), (.int (0)), (.int (0)), (.int (0)), (.int (0)), (.int (0)), (.int (0)), (.int (0)), (.int (0)), (.int (0)), (.int (0)), (.int (0)), (.int (0)), (.int (0)), (.int (0)), (.int (0)), (.int (0)), (.int (0)), (.int (0)), (.int (0)), (.int (0)), (.int (0)), (.int (0)), (.int (0)), (.int (0)), (.int (0)), (.int (0)), (.int (0)), (.int (0)), (.int (0)), (.int (0)), (.int (0)), (.int (0)), (.int (0)), (.int (0)), (.int (0)), (.int (0)), (.int (0)), (.int (0)), (.int (0)), (.int (0)), (.int (0)), (.int (0)), (.int (0)), (.int (0)), (.int (0)), (.int (0)), (.int (0)), (.int (0)), (.int (0)), (.int (0)), (.int (0)), (.int (0)), (.int (0)), (.int (0)), (.int (0)), (.int (0)), (.int (0)), (.int (0)), (.int (0)), (.int (0)), (.int (0)), (.int (0)), (.int (0)), (.int (0)), (.int (0)), (.int (0)), (.int (0)), (.int (0)), (.int (0)), (.int (0)), (.int (0)), (.int (0)), (.int (0)), (.int (0)), (.int (0)), (.int (0)), (.int (0)), (.int (0)), (.int (0)), (.int (0)), (.int (0)), (.int (0)), (.int (0)), (.int (0)), (.int (0)), (.int (0)), (.int (0)), (.int (0)), (.int (0)), (.int (0)), (.int (0)), (.int (0)), (.int (0)), (.int (0)), (.int (0)), (.int (0)), (.int (0)), (.int (0)), (.int (0)), (.int (0)), (.int (0)), (.int (0)), (.int (0)), (.int (0)), (.int (0)), (.int (0)), (.int (0)), (.int (0)), (.int (0)), (.int (0)), (.int (0)), (.int (0)), (.int (0)), (.int (0)), (.int (0)), (.int (0)), (.int (0)), (.int (0)), (.int (0)), (.int (0)), (.int (0)), (.int (0)), (.int (0)), (.int (0)), (.int (0)), (.int (0)), (.int (0)), (.int (0)), (.int (0)), (.int (0)), (.int (0)), (.int (0)), (.int (0)), (.int (0)), (.int (0)), (.int (0)), (.int (0)), (.int (0)), (.int (0)), (.int (0)), (.int (0)), (.int (0)), (.int (0)), (.int (0)), (.int (0)), (.int (0)), (.int (0)), (.int (0)), (.int (0)), (.int (0)), (.int (0)), (.int (0)), (.int (0)), (.int (0)), (.int (0)), (.int (0)), (.int (0)), (.int (0)), (.int (0)), (.int (0)), (.int (0)), (.int (0)), (.int (0)), (.int (0)), (.int (0)), (.int (0)), (.int (0)), (.int (0)), (.int (0)), (.int (0)), (.int (0)), (.int (0)), (.int (0)), (.int (0)), (.int (0)), (.int (0)), (.int (0)), (.int (0)), (.int (0)), (.int (0)), (.int (0)), (.int (0)), (.int (0)), (.int (0)), (.int (0)), (.int (0)), (.int (0)), (.int (0)), (.int (0)), (.int (0)), (.int (0)), (.int (0)), (.int (0)), (.int (0)), (.int (0)), (.int (0)), (.int (0)), (.int (0)), (.int (0)), (.int (0)), (.int (0)), (.int (0)), (.int (0)), (.int (0)), (.int (0)), (.int (0)), (.int (0)), (.int (0)), (.int (0)), (.int (0)), (.int (0)), (.int (0)), (.int (0)), (.int (0)), (.int (0)), (.int (0)), (.int (0)), (.int (0)), (.int (0)), (.int (0)), (.int (0)), (.int (0)), (.int (0)), (.int (0)), (.int (0)), (.int (0)), (.int (0)), (.int (0)), (.int (0)), (.int (0)), (.int (0)), (.int (0)), (.int (0)), (.int (0)), (.int (0)), (.int (0)), (.int (0)), (.int (0)), (.int (0)), (.int (0)), (.int (0)), (.int (0)), (.int (0)), (.int (0)), (.int (0)), (.int (0)), (.int (0)), (.int (0)), (.int (0)), (.int (0)), (.int (0)), (.int (0)), (.int (0)), (.int (0)), (.int (0)), (.int (0)), (.int (0)), (.int (0)), (.int (0)), (.int (0)), (.int (0)), (.int (0)), (.int (0)), (.int (0)), (.int (0)), (.int (0)), (.int (0)), (.int (0)), (.int (0)), (.int (0)), (.int (0)), (.int (0)), (.int (0)), (.int (0)), (.int (0)), (.int (0)), (.int (0)), (.int (0)), (.int (0)), (.int (0)), (.int (0)), (.int (0)), (.int (0)), (.int (0)), (.int (0)), (.int (0)), (.int (0)), (.int (0)), (.int (0)), (.int (0)), (.int (0)), (.int (0)), (.int (0)), (.int (0)), (.int (0)), (.int (0)), (.int (0)), (.int (0)), (.int (0)), (.int (0)), (.int (0)), (.int (0)), (.int (0)), (.int (0)), (.int (0)), (.int (0)), (.int (0)), (.int (0)), (.int (0)), (.int (0)), (.int (0)), (.int (0)), (.int (0)), (.int (0)), (.int (0)), (.int (0)), (.int (0)), (.int (0)), (.int (0)), (.int (0)), (.int (0)), (.int (0)), (.int (0)), (.int (0)), (.int (0)), (.int (0)), (.int (0)), (.int (0)), (.int (0)), (.int (0)), (.int (0)), (.int (0)), (.int (0)), (.int (0)), (.int (0)), (.int (0)), (.int (0)), (.int (0)), (.int (0)), (.int (0)), (.int (0)), (.int (0)), (.int (0)), (.int (0)), (.int (0)), (.int (0)), (.int (0)), (.int (0)), (.int (0)), (.int (0)), (.int (0)), (.int (0)), (.int (0)), (.int (0)), (.int (0)), (.int (0)), (.int (0)), (.int (0)), (.int (0)), (.int (0)), (.int (0)), (.int (0)), (.int (0)), (.int (0)), (.int (0)), (.int (0)), (.int (0)), (.int (0)), (.int (0)), (.int (0)), (.int (0)), (.int (0)), (.int (0)), (.int (0)), (.int (0)), (.int (0)), (.int (0)), (.int (0)), (.int (0)), (.int (0)), (.int (0)), (.int (0)), (.int (0)), (.int (0)), (.int (0)), (.int (0)), (.int (0)), (.int (0)), (.int (0)), (.int (0)), (.int (0)), (.int (0)), (.int (0)), (.int (0)), (.int (0)), (.int (0)), (.int (0)), (.int (0)), (.int (0)), (.int (0)), (.int (0)), (.int (0)), (.int (0)), (.int (0)), (.int (0)), (.int (0)), (.int (0)), (.int (0)), (.int (0)), (.int (0)), (.int (0)), (.int (0)), (.int (0)), (.int (0)), (.int (0)), (.int (0)), (.int (0)), (.int (0)), (.int (0)), (.int (0)), (.int (0)), (.int (0)), (.int (0)), (.int (0)), (.int (0)), (.int (0)), (.int (0)), (.int (0)), (.int (0)), (.int (0)), (.int (0)), (.int (0)), (.int (0)), (.int (0)), (.int (0)), (.int (0)), (.int (0)), (.int (0)), (.int (0)), (.int (0)), (.int (0)), (.int (0)), (.int (0)), (.int (0)), (.int (0)), (.int (0)), (.int (0)), (.int (0)), (.int (0)), (.int (0)), (.int (0)), (.int (0)), (.int (0)), (.int (0)), (.int (0)), (.int (0))]), some (.bl true), some (.int (0)), some (.bl false)], 2, []⟩,
  ⟨[some (.ref 1), none, none, none, none, none, none, none, none, none, none, none, none, none, some (.tup [(.int (0)), (.int (0)), (.int (0)), (.int (0)), (.int (0)), (.int (0)), (.int (0)), (.int (0)), (.int (0)), (.int (0)), (.int (0)), (.int (0)), (.int (0)), (.int (0)), (.int (0)), (.int (0)), (.int (0)), (.int (0)), (.int (0)), (.int (0)), (.int (0)), (.int (0)), (.int (0)), (.int (0)), (.int (0)), (.int (0)), (.int (0)), (.int (0)), (.int (0)), (.int (0)), (.int (0)), (.int (0)), (.int (0)), (.int (0)), (.int (0)), (.int (0)), (.int (0)), (.int (0)), (.int (0)), (.int (0)), (.int (0)), (.int (0)), (.int (0)), (.int (0)), (.int (0)), (.int (0)), (.int (0)), (.int (0)), (.int (0)), (.int (0)), (.int (0)), (.int (0)), (.int (0)), (.int (0)), (.int (0)), (.int (0)), (.int (0)), (.int (0)), (.int (0)), (.int (0)), (.int (0)), (.int (0)), (.int (0)), (.int (0)), (.int (0)), (.int (0)), (.int (0)), (.int (0)), (.int (0)), (.int (0)), (.int (0)), (.int (0)), (.int (0)), (.int (0)), (.int (0)), (.int (0)), (.int (0)), (.int (0)), (.int (0)), (.int (0)), (.int (0)), (.int (0)), (.int (0)), (.int (0)), (.int (0)), (.int (0)), (.int (0)), (.int (0)), (.int (0)), (.int (0)), (.int (0)), (.int (0)), (.int (0)), (.int (0)), (.int (0)), (.int (0)), (.int (0)), (.int (0)), (.int (0)), (.int (0)), (.int (0)), (.int (0)), (.int (0)), (.int (0)), (.int (0)), (.int (0)), (.int (0)), (.int (0)), (.int (0)), (.int (0)), (.int (0)), (.int (0)), (.int (0)), (.int (0)), (.int (0)), (.int (0)), (.int (0)), (.int (0)), (.int (0)), (.int (0)), (.int (0)), (.int (0)), (.int (0)), (.int (0)), (.int (0)), (.int (0)), (.int (0)), (.int (0)), (.int (0)), (.int (0)), (.int (0)), (.int (0)), (.int (0)), (.int (0)), (.int (0)), (.int (0)), (.int (0)), (.int (0)), (.int (0)), (.int (0)), (.int (0)), (.int (0)), (.int (0)), (.int (0)), (.int (0)), (.int (0)), (.int (0)), (.int (0)), (.int (0)), (.int (0)), (.int (0)), (.int (0)), (.int (0)), (.int (0)), (.int (0)), (.int (0)), (.int (0)), (.int (0)), (.int (0)), (.int (0)), (.int (0)), (.int (0)), (.int (0)), (.int (0)), (.int (0)), (.int (0)), (.int (0)), (.int (0)), (.int (0)), (.int (0)), (.int (0)), (.int (0)), (.int (0)), (.int (0)), (.int (0)), (.int (0)), (.int (0)), (.int (0)), (.int (0)), (.int (0)), (.int (0)), (.int (0)), (.int (0)), (.int (0)), (.int (0)), (.int (0)), (.int (0)), (.int (0)), (.int (0)), (.int (0)), (.int (0)), (.int (0)), (.int (0)), (.int (0)), (.int (0)), (.int (0)), (.int (0)), (.int (0)), (.int (0)), (.int (0)), (.int (0)), (.int (0)), (.int (0)), (.int (0)), (.int (0)), (.int (0)), (.int (0)), (.int (0)), (.int (0)), (.int (0)), (.int (0)), (.int (0)), (.int (0)), (.int (0)), (.int (0)), (.int (0)), (.int (0)), (.int (0)), (.int (0)), (.int (0)), (.int (0)), (.int (0)), (.int (0)), (.int (0)), (.int (0)), (.int (0)), (.int (0)), (.int (0)), (.int (0)), (.int (0)), (.int (0)), (.int (0)), (.int (0)), (.int (0)), (.int (0)), (.int (0)), (.int (0)), (.int (0)), (.int (0)), (.int (0)), (.int (0)), (.int (0)), (.int (0)), (.int (0)), (.int (0)), (.int (0)), (.int (0)), (.int (0)), (.int (0)), (.int (0)), (.int (0)), (.int (0)), (.int (0)), (.int (0)), (.int (0)), (.int (0)), (.int (0)), (.int (0)), (.int (0)), (.int (0)), (.int (0)), (.int (0)), (.int (0)), (.int (0)), (.int (0)), (.int (0)), (.int (0)), (.int (0)), (.int (0)), (.int (0)), (.int (0)), (.int (0)), (.int (0)), (.int (0)), (.int (0)), (.int (0)), (.int (0)), (.int (0)), (.int (0)), (.int (0)), (.int (0)), (.int (0)), (.int (0)), (.int (0)), (.int (0)), (.int (0)), (.int (0)), (.int (0)), (.int (0)), (.int (0)), (.int (0)), (.int (0)), (.int (0)), (.int (0)), (.int (0)), (.int (0)), (.int (0)), (.int (0)), (.int (0)), (.int (0)), (.int (0)), (.int (0)), (.int (0)), (.int (0)), (.int (0)), (.int (0)), (.int (0)), (.int (0)), (.int (0)), (.int (0)), (.int (0)), (.int (0)), (.int (0)), (.int (0)), (.int (0)), (.int (0)), (.int (0)), (.int (0)), (.int (0)), (.int (0)), (.int (0)), (.int (0)), (.int (0)), (.int (0)), (.int (0)), (.int (0)), (.int (0)), (.int (0)), (.int (0)), (.int (0)), (.int (0)), (.int (0)), (.int (0)), (.int (0)), (.int (0)), (.int (0)), (.int (0)), (.int (0)), (.int (0)), (.int (0)), (.int (0)), (.int (0)), (.int (0)), (.int (0)), (.int (0)), (.int (0)), (.int (0)), (.int (0)), (.int (0)), (.int (0)), (.int (0)), (.int (0)), (.int (0)), (.int (0)), (.int (0)), (.int (0)), (.int (0)), (.int (0)), (.int (0)), (.int (0)), (.int (0)), (.int (0)), (.int (0)), (.int (0)), (.int (0)), (.int (0)), (.int (0)), (.int (0)), (.int (0)), (.int (0)), (.int (0)), (.int (0)), (.int (0)), (.int (0)), (.int (0)), (.int (0)), (.int (0)), (.int (0)), (.int (0)), (.int (0)), (.int (0)), (.int (0)), (.int (0)), (.int (0)), (.int (0)), (.int (0)), (.int (0)), (.int (0)), (.int (0)), (.int (0)), (.int (0)), (.int (0)), (.int (0)), (.int (0)), (.int (0)), (.int (0)), (.int (0)), (.int (0)), (.int (0)), (.int (0)), (.int (0)), (.int (0)), (.int (0)), (.int (0)), (.int (0)), (.int (0)), (.int (0)), (.int (0)), (.int (0)), (.int (0)), (.int (0)), (.int (0)), (.int (0)), (.int (0)), (.int (0)), (.int (0)), (.int (0)), (.int (0)), (.int (0)), (.int (0)), (.int (0)), (.int (0)), (.int (0)), (.int (0)), (.int (0)), (.int (0)), (.int (0)), (.int (0)), (.int (0)), (.int (0)), (.int (0)), (.int (0)), (.int (0)), (.int (0)), (.int (0)), (.int (0)), (.int (0)), (.int (0)), (.int (0)), (.int (0)), (.int (0)), (.int (0)), (.int (0)), (.int (0)), (.int (0)), (.int (0)), (.int (0)), (.int (0)), (.int (0)), (.int (0)), (.int (0)), (.int (0)), (.int (0)), (.int (0)), (.int (0)), (.int (0)), (.int (0)), (.int (0)), (.int (0)), (.int (0)), (.int (0)), (.int (0)), (.int (0)), (.int (0)), (.int (0)), (.int (0)), (.int (0)), (.int (0)), (.int (0)), (.int (0)), (.int (0)), (.int (0)), (.int (0)), (.int (0)), (.int (0)), (.int (0)), (.int (0)), (.int (0)), (.int (0)), (.int (0)), (.int (0)), (.int (0)), (.int (0)), (.int (0)), (.int (0)), (.int (0)), (.int (0)), (.int (0)), (.int (0)), (.int (0)), (.int (0)), (.int (0)), (.int (0)), (.int (0)), (.int (0)), (.int (0)), (.int (0)), (.int (0)), (.int (0)), (.int (0)), (.int (0)), (.int (0)), (.int (0)), (.int (0)), (.int (0)), (.int (0)), (.int (0)), (.int (0)), (.int (0)), (.int (0)), (.int (0)), (.int (0)), (.int (0)), (.int (0)), (.int (0)), (.int (0)), (.int (0)), (.int (0)), (.int (0)), (.int (0)), (.int (0)), (.int (0)), (.int (0)), (.int (0)), (.int (0)), (.int (0)), (.int (0)), (.int (0)), (.int (0)), (.int (0)), (.int (0)), (.int (0)), (.int (0)), (.int (0)), (.int (0)), (.int (0)), (.int (0)), (.int (0)), (.int (0)), (.int (0)), (.int (0)), (.int (0)), (.int (0)), (.int (0)), (.int (0)), (.int (0)), (.int (0)), (.int (0)), (.int (0)), (.int (0)), (.int (0)), (.int (0)), (.int (0)), (.int (0)), (.int (0)), (.int (0)), (.int (0)), (.int (0)), (.int (0)), (.int (0)), (.int (0)), (.int (0)), (.int (0)), (.int (0)), (.int (0)), (.int (0)), (.int (0)), (.int (0)), (.int (0)), (.int (0)), (.int (0)), (.int (0)), (.int (0)), (.int (0)), (.int (0)), (.int (0)), (.int (0)), (.int (0)), (.int (0)), (.int (0)), (.int (0)), (.int (0)), (.int (0)), (.int (0)), (.int (0)), (.int (0)), (.int (0)), (.int (0)), (.int (0)), (.int (0)), (.int (0)), (.int (0)), (.int (0)), (.int (0)), (.int (0)), (.int (0)), (.int (0)), (.int (0)), (.int (0)), (.int (0)), (.int (0)), (.int (0)), (.int (0)), (.int (0)), (.int (0)), (.int (0)), (.int (0)), (.int (0)), (.int (0)), (.int (0)), (.int (0)), (.int (0)), (.int (0)), (.int (0)), (.int (0)), (.int (0)), (.int (0)), (.int (0)), (.int (0)), (.int (0)), (.int (0)), (.int (0)), (.int (0)), (.int (0)), (.int (0)), (.int (0)), (.int (0)), (.int (0)), (.int (0)), (.int (0)), (.int (0)), (.int (0)), (.int (0)), (.int (0)), (.int (0)), (.int (0)), (.int (0)), (.int (0)), (.int (0)), (.int (0)), (.int (0)), (.int (0)), (.int (0)), (.int (0)), (.int (0)), (.int (0)), (.int (0)), (.int (0)), (.int (0)), (.int (0)), (.int (0)), (.int (0)), (.int (0)), (.int (0)), (.int (0)), (.int (0)), (.int (0)), (.int (0)), (.int (0)), (.int (0)), (.int (0)), (.int (0)), (.int (0)), (.int (0)), (.int (0)), (.int (0)), (.int (0)), (.int (0)), (.int (0)), (.int (0)), (.int (0)), (.int (0)), (.int (0)), (.int (0)), (.int (0)), (.int (0)), (.int (0)), (.int (0)), (.int (0)), (.int (0)), (.int (0)), (.int (0)), (.int (0)), (.int (0)), (.int (0)), (.int (0)), (.int (0)), (.int (0)), (.int (0)), (.int (0)), (.int (0)), (.int (0)), (.int (0)), (.int (0)), (.int (0)), (.int (0)), (.int (0)), (.int (0)), (.int (0)), (.int (0)), (.int (0)), (.int (0)), (.int (0)), (.int (0)), (.int (0)), (.int (0)), (.int (0)), (.int (0)), (.int (0)), (.int (0)), (.int (0)), (.int (0)), (.int (0)), (.int (0)), (.int (0)), (.int (0)), (.int (0)), (.int (0)), (.int (0)), (.int (0)), (.int (0)), (.int (0)), (.int (0)), (.int (0)), (.int (0)), (.int (0)), (.int (0)), (.int (0)), (.int (0)), (.int (0)), (.int (0)), (.int (0)), (.int (0)), (.int (0)), (.int (0)), (.int (0)), (.int (0)), (.int (0)), (.int (0)), (.int (0)), (.int (0)), (.int (0)), (.int (0)), (.int (0)), (.int (0)), (.int (0)), (.int (0)), (.int (0)), (.int (0)), (.int (0)), (.int (0)), (.int (0)), (.int (0)), (.int (0)), (.int (0)), (.int (0)), (.int (0)), (.int (0)), (.int (0)), (.int (0)), (.int (0)), (.int (0)), (.int (0)), (.int (0)), (.int (0)), (.int (0)), (.int (0)), (.int (0)), (.int (0)), (.int (0)), (.int (0)), (.int (0)), (.int (0)), (.int (0)), (.int (0)), (.int (0)), (.int (0)), (.int (0)), (.int (0)), (.int (0)), (.int (0)), (.int (0)), (.int (0)), (.int (0)), (.int (0)), (.int (0)), (.int (0)), (.int (0)), (.int (0)), (.int (0)), (.int (0)), (.int (0)), (.int (0)), (.int (0)), (.int (0)), (.int (0)), (.int (0)), (.int (0)), (.int (0)), (.int (0)), (.int (0)), (.int (0)), (.int (0)), (.int (0)), (.int (0)), (.int (0)), (.int (0)), (.int (0)), (.int (0)), (.int (0)), (.int (0)), (.int (0)), (.int (0)), (.int (0)), (.int (0)), (.int (0)), (.int (0)), (.int (0)), (.int (0)), (.int (0)), (.int (0)), (.int (0)), (.int (0)), (.int (0)), (.int (0)), (.int (0)), (.int (0)), (.int (0)), (.int (0)), (.int (0)), (.int (0)), (.int (0)), (.int (0)), (.int (0)), (.int (0)), (.int (0)), (.int (0)), (.int (0)), (.int (0)), (.int (0)), (.int (0)), (.int (0)), (.int (0)), (.int (0)), (.int (0)), (.int (0)), (.int (0)), (.int (0)), (.int (0)), (.int (0)), (.int (0)), (.int (0)), (.int (0)), (.int (0)), (.int (0)), (.int (0)), (.int (0)), (.int (0)), (.int (0)), (.int (0)), (.int (0)), (.int (0)), (.int (0)), (.int (0)), (.int (0)), (.int (0)), (.int (0)), (.int (0)), (.int (0)), (.int (0)), (.int (0)), (.int (0)), (.int (0)), (.int (0)), (.int (0)), (.int (0)), (.int (0)), (.int (0)), (.int (0)), (.int (0)), (.int (0)), (.int (0)), (.int (0)), (.int (0)), (.int (0)), (.int (0)), (.int (0)), (.int (0)), (.int (0)), (.int (0)), (.int (0)), (.int (0)), (.int (0)), (.int (0)), (.int (0)), (.int (0)), (.int (0)), (.int (0)), (.int (0)), (.int (0)), (.int (0)), (.int (0)), (.int (0)), (.int (0)), (.int (0)), (.int (0)), (.int (0)), (.int (0)), (.int (0)), (.int (0)), (.int (0)), (.int (0)), (.int (0)), (.int (0)), (.int (0)), (.int (0)), (.int (0)), (.int (0)), (.int (0)), (.int (0)), (.int (0)), (.int (0)), (.int (0)), (.int (0)), (.int (0)), (.int (0)), (.int (0)), (.int (0)), (.int (0)), (.int (0)), (.int (0)), (.int (0)), (.int (0)), (.int (0)), (.int (0)), (.int (0)), (.int (0)), (.int (0)), (.int (0)), (.int (0)), (.int (0)), (.int (0)), (.int (0)), (.int (0)), (.int (0)), (.int (0)), (.int (0)), (.int (0)), (.int (0)), (.int (0)), (.int (0)), (.int (0)), (.int (0)), (.int (0)), (.int (0)), (.int (0)), (.int (0)), (.int (0)), (.int (0)), (.int (0)), (.int (0)), (.int (0)), (.int (0)), (.int (0)), (.int (0)), (.int (0)), (.int (0)), (.int (0)), (.int (0)), (.int (0)), (.int (0)), (.int (0)), (.int (0)), (.int (0)), (.int (0)), (.int (0)), (.int (0)), (.int (0)), (.int (0)), (.int (0)), (.int (0)), (.int (0)), (.int (0)), (.int (0)), (.int (0)), (.int (0)), (.int (0)), (.int (0)), (.int (0)), (.int (0)), (.int (0)), (.int (0)), (.int (0)), (.int (0)), (.int (0)), (.int (0)), (.int (0)), (.int (0)), (.int (0)), (.int (0)), (.int (0)), (.int (0))]), some (.bl true), some (.int (1)), some (.bl false)], 2, []⟩,
  ⟨[some (.ref 1), none, none, none, none, none, none, none, none, none, none, none, none, none, some (.tup [(.int (0)), (.int (0)), (.int (0)), (.int (0)), (.int (0)), (.int (0)), (.int (0)), (.int (0)), (.int (0)), (.int (0)), (.int (0)), (.int (0)), (.int (0)), (.int (0)), (.int (0)), (.int (0)), (.int (0)), (.int (0)), (.int (0)), (.int (0)), (.int (0)), (.int (0)), (.int (0)), (.int (0)), (.int (0)), (.int (0)), (.int (0)), (.int (0)), (.int (0)), (.int (0)), (.int (0)), (.int (0)), (.int (0)), (.int (0)), (.int (0)), (.int (0)), (.int (0)), (.int (0)), (.int (0)), (.int (0)), (.int (0)), (.int (0)), (.int (0)), (.int (0)), (.int (0)), (.int (0)), (.int (0)), (.int (0)), (.int (0)), (.int (0)), (.int (0)), (.int (0)), (.int (0)), (.int (0)), (.int (0)), (.int (0)), (.int (0)), (.int (0)), (.int (0)), (.int (0)), (.int (0)), (.int (0)), (.int (0)), (.int (0)), (.int (0)), (.int (0)), (.int (0)), (.int (0)), (.int (0)), (.int (0)), (.int (0)), (.int (0)), (.int (0)), (.int (0)), (.int (0)), (.int (0)), (.int (0)), (.int (0)), (.int (0)), (.int (0)), (.int (0)), (.int (0)), (.int (0)), (.int (0)), (.int (0)), (.int (0)), (.int (0)), (.int (0)), (.int (0)), (.int (0)), (.int (0)), (.int (0)), (.int (0)), (.int (0)), (.int (0)), (.int (0)), (.int (0)), (.int (0)), (.int (0)), (.int (0)), (.int (0)), (.int (0)), (.int (0)), (.int (0)), (.int (0)), (.int (0)), (.int (0)), (.int (0)), (.int (0)), (.int (0)), (.int (0)), (.int (0)), (.int (0)), (.int (0)), (.int (0)), (.int (0)), (.int (0)), (.int (0)), (.int (0)), (.int (0)), (.int (0)), (.int (0)), (.int (0)), (.int (0)), (.int (0)), (.int (0)), (.int (0)), (.int (0)), (.int (0)), (.int (0)), (.int (0)), (.int (0)), (.int (0)), (.int (0)), (.int (0)), (.int (0)), (.int (0)), (.int (0)), (.int (0)), (.int (0)), (.int (0)), (.int (0)), (.int (0)), (.int (0)), (.int (0)), (.int (0)), (.int (0)), (.int (0)), (.int (0)), (.int (0)), (.int (0)), (.int (0)), (.int (0)), (.int (0)), (.int (0)), (.int (0)), (.int (0)), (.int (0)), (.int (0)), (.int (0)), (.int (0)), (.int (0)), (.int (0)), (.int (0)), (.int (0)), (.int (0)), (.int (0)), (.int (0)), (.int (0)), (.int (0)), (.int (0)), (.int (0)), (.int (0)), (.int (0)), (.int (0)), (.int (0)), (.int (0)), (.int (0)), (.int (0)), (.int (0)), (.int (0)), (.int (0)), (.int (0)), (.int (0)), (.int (0)), (.int (0)), (.int (0)), (.int (0)), (.int (0)), (.int (0)), (.int (0)), (.int (0)), (.int (0)), (.int (0)), (.int (0)), (.int (0)), (.int (0)), (.int (0)), (.int (0)), (.int (0)), (.int (0)), (.int (0)), (.int (0)), (.int (0)), (.int (0)), (.int (0)), (.int (0)), (.int (0)), (.int (0)), (.int (0)), (.int (0)), (.int (0)), (.int (0)), (.int (0)), (.int (0)), (.int (0)), (.int (0)), (.int (0)), (.int (0)), (.int (0)), (.int (0)), (.int (0)), (.int (0)), (.int (0)), (.int (0)), (.int (0)), (.int (0)), (.int (0)), (.int (0)), (.int (0)), (.int (0)), (.int (0)), (.int (0)), (.int (0)), (.int (0)), (.int (0)), (.int (0)), (.int (0)), (.int (0)), (.int (0)), (.int (0)), (.int (0)), (.int (0)), (.int (0)), (.int (0)), (.int (0)), (.int (0)), (.int (0)), (.int (0)), (.int (0)), (.int (0)), (.int (0)), (.int (0)), (.int (0)), (.int (0)), (.int (0)), (.int (0)), (.int (0)), (.int (0)), (.int (0)), (.int (0)), (.int (0)), (.int (0)), (.int (0)), (.int (0)), (.int (0)), (.int (0)), (.int (0)), (.int (0)), (.int (0)), (.int (0)), (.int (0)), (.int (0)), (.int (0)), (.int (0)), (.int (0)), (.int (0)), (.int (0)), (.int (0)), (.int (0)), (.int (0)), (.int (0)), (.int (0)), (.int (0)), (.int (0)), (.int (0)), (.int (0)), (.int (0)), (.int (0)), (.int (0)), (.int (0)), (.int (0)), (.int (0)), (.int (0)), (.int (0)), (.int (0)), (.int (0)), (.int (0)), (.int (0)), (.int (0)), (.int (0)), (.int (0)), (.int (0)), (.int (0)), (.int (0)), (.int (0)), (.int (0)), (.int (0)), (.int (0)), (.int (0)), (.int (0)), (.int (0)), (.int (0)), (.int (0)), (.int (0)), (.int (0)), (.int (0)), (.int (0)), (.int (0)), (.int (0)), (.int (0)), (.int (0)), (.int (0)), (.int (0)), (.int (0)), (.int (0)), (.int (0)), (.int (0)), (.int (0)), (.int (0)), (.int (0)), (.int (0)), (.int (0)), (.int (0)), (.int (0)), (.int (0)), (.int (0)), (.int (0)), (.int (0)), (.int (0)), (.int (0)), (.int (0)), (.int (0)), (.int (0)), (.int (0)), (.int (0)), (.int (0)), (.int (0)), (.int (0)), (.int (0)), (.int (0)), (.int (0)), (.int (0)), (.int (0)), (.int (0)), (.int (0)), (.int (0)), (.int (0)), (.int (0)), (.int (0)), (.int (0)), (.int (0)), (.int (0)), (.int (0)), (.int (0)), (.int (0)), (.int (0)), (.int (0)), (.int (0)), (.int (0)), (.int (0)), (.int (0)), (.int (0)), (.int (0)), (.int (0)), (.int (0)), (.int (0)), (.int (0)), (.int (0)), (.int (0)), (.int (0)), (.int (0)), (.int (0)), (.int (0)), (.int (0)), (.int (0)), (.int (0)), (.int (0)), (.int (0)), (.int (0)), (.int (0)), (.int (0)), (.int (0)), (.int (0)), (.int (0)), (.int (0)), (.int (0)), (.int (0)), (.int (0)), (.int (0)), (.int (0)), (.int (0)), (.int (0)), (.int (0)), (.int (0)), (.int (0)), (.int (0)), (.int (0)), (.int (0)), (.int (0)), (.int (0)), (.int (0)), (.int (0)), (.int (0)), (.int (0)), (.int (0)), (.int (0)), (.int (0)), (.int (0)), (.int (0)), (.int (0)), (.int (0)), (.int (0)), (.int (0)), (.int (0)), (.int (0)), (.int (0)), (.int (0)), (.int (0)), (.int (0)), (.int (0)), (.int (0)), (.int (0)), (.int (0)), (.int (0)), (.int (0)), (.int (0)), (.int (0)), (.int (0)), (.int (0)), (.int (0)), (.int (0)), (.int (0)), (.int (0)), (.int (0)), (.int (0)), (.int (0)), (.int (0)), (.int (0)), (.int (0)), (.int (0)), (.int (0)), (.int (0)), (.int (0)), (.int (0)), (.int (0)), (.int (0)), (.int (0)), (.int (0)), (.int (0)), (.int (0)), (.int (0)), (.int (0)), (.int (0)), (.int (0)), (.int (0)), (.int (0)), (.int (0)), (.int (0)), (.int (0)), (.int (0)), (.int (0)), (.int (0)), (.int (0)), (.int (0)), (.int (0)), (.int (0)), (.int (0)), (.int (0)), (.int (0)), (.int (0)), (.int (0)), (.int (0)), (.int (0)), (.int (0)), (.int (0)), (.int (0)), (.int (0)), (.int (0)), (.int (0)), (.int (0)), (.int (0)), (.int (0)), (.int (0)), (.int (0)), (.int (0)), (.int (0)), (.int (0)), (.int (0)), (.int (0)), (.int (0)), (.int (0)), (.int (0)), (.int (0)), (.int (0)), (.int (0)), (.int (0)), (.int (0)), (.int (0)), (.int (0)), (.int (0)), (.int (0)), (.int (0)), (.int (0)), (.int (0)), (.int (0)), (.int (0)), (.int (0)), (.int (0)), (.int (0)), (.int (0)), (.int (0)), (.int (0)), (.int (0)), (.int (0)), (.int (0)), (.int (0)), (.int (0)), (.int (0)), (.int (0)), (.int (0)), (.int (0)), (.int (0)), (.int (0)), (.int (0)), (.int (0)), (.int (0)), (.int (0)), (.int (0)), (.int (0)), (.int (0)), (.int (0)), (.int (0)), (.int (0)), (.int (0)), (.int (0)), (.int (0)), (.int (0)), (.int (0)), (.int (0)), (.int (0)), (.int (0)), (.int (0)), (.int (0)), (.int (0)), (.int (0)), (.int (0)), (.int (0)), (.int (0)), (.int (0)), (.int (0)), (.int (0)), (.int (0)), (.int (0)), (.int (0)), (.int (0)), (.int (0)), (.int (0)), (.int (0)), (.int (0)), (.int (0)), (.int (0)), (.int (0)), (.int (0)), (.int (0)), (.int (0)), (.int (0)), (.int (0)), (.int (0)), (.int (0)), (.int (0)), (.int (0)), (.int (0)), (.int (0)), (.int (0)), (.int (0)), (.int (0)), (.int (0)), (.int (0)), (.int (0)), (.int (0)), (.int (0)), (.int (0)), (.int (0)), (.int (0)), (.int (0)), (.int (0)), (.int (0)), (.int (0)), (.int (0)), (.int (0)), (.int (0)), (.int (0)), (.int (0)), (.int (0)), (.int (0)), (.int (0)), (.int (0)), (.int (0)), (.int (0)), (.int (0)), (.int (0)), (.int (0)), (.int (0)), (.int (0)), (.int (0)), (.int (0)), (.int (0)), (.int (0)), (.int (0)), (.int (0)), (.int (0)), (.int (0)), (.int (0)), (.int (0)), (.int (0)), (.int (0)), (.int (0)), (.int (0)), (.int (0)), (.int (0)), (.int (0)), (.int (0)), (.int (0)), (.int (0)), (.int (0)), (.int (0)), (.int (0)), (.int (0)), (.int (0)), (.int (0)), (.int (0)), (.int (0)), (.int (0)), (.int (0)), (.int (0)), (.int (0)), (.int (0)), (.int (0)), (.int (0)), (.int (0)), (.int (0)), (.int (0)), (.int (0)), (.int (0)), (.int (0)), (.int (0)), (.int (0)), (.int (0)), (.int (0)), (.int (0)), (.int (0)), (.int (0)), (.int (0)), (.int (0)), (.int (0)), (.int (0)), (.int (0)), (.int (0)), (.int (0)), (.int (0)), (.int (0)), (.int (0)), (.int (0)), (.int (0)), (.int (0)), (.int (0)), (.int (0)), (.int (0)), (.int (0)), (.int (0)), (.int (0)), (.int (0)), (.int (0)), (.int (0)), (.int (0)), (.int (0)), (.int (0)), (.int (0)), (.int (0)), (.int (0)), (.int (0)), (.int (0)), (.int (0)), (.int (0)), (.int (0)), (.int (0)), (.int (0)), (.int (0)), (.int (0)), (.int (0)), (.int (0)), (.int (0)), (.int (0)), (.int (0)), (.int (0)), (.int (0)), (.int (0)), (.int (0)), (.int (0)), (.int (0)), (.int (0)), (.int (0)), (.int (0)), (.int (0)), (.int (0)), (.int (0)), (.int (0)), (.int (0)), (.int (0)), (.int (0)), (.int (0)), (.int (0)), (.int (0)), (.int (0)), (.int (0)), (.int (0)), (.int (0)), (.int (0)), (.int (0)), (.int (0)), (.int (0)), (.int (0)), (.int (0)), (.int (0)), (.int (0)), (.int (0)), (.int (0)), (.int (0)), (.int (0)), (.int (0)), (.int (0)), (.int (0)), (.int (0)), (.int (0)), (.int (0)), (.int (0)), (.int (0)), (.int (0)), (.int (0)), (.int (0)), (.int (0)), (.int (0)), (.int (0)), (.int (0)), (.int (0)), (.int (0)), (.int (0)), (.int (0)), (.int (0)), (.int (0)), (.int (0)), (.int (0)), (.int (0)), (.int (0)), (.int (0)), (.int (0)), (.int (0)), (.int (0)), (.int (0)), (.int (0)), (.int (0)), (.int (0)), (.int (0)), (.int (0)), (.int (0)), (.int (0)), (.int (0)), (.int (0)), (.int (0)), (.int (0)), (.int (0)), (.int (0)), (.int (0)), (.int (0)), (.int (0)), (.int (0)), (.int (0)), (.int (0)), (.int (0)), (.int (0)), (.int (0)), (.int (0)), (.int (0)), (.int (0)), (.int (0)), (.int (0)), (.int (0)), (.int (0)), (.int (0)), (.int (0)), (.int (0)), (.int (0)), (.int (0)), (.int (0)), (.int (0)), (.int (0)), (.int (0)), (.int (0)), (.int (0)), (.int (0)), (.int (0)), (.int (0)), (.int (0)), (.int (0)), (.int (0)), (.int (0)), (.int (0)), (.int (0)), (.int (0)), (.int (0)), (.int (0)), (.int (0)), (.int (0)), (.int (0)), (.int (0)), (.int (0)), (.int (0)), (.int (0)), (.int (0)), (.int (0)), (.int (0)), (.int (0)), (.int (0)), (.int (0)), (.int (0)), (.int (0)), (.int (0)), (.int (0)), (.int (0)), (.int (0)), (.int (0)), (.int (0)), (.int (0)), (.int (0)), (.int (0)), (.int (0)), (.int (0)), (.int (0)), (.int (0)), (.int (0)), (.int (0)), (.int (0)), (.int (0)), (.int (0)), (.int (0)), (.int (0)), (.int (0)), (.int (0)), (.int (0)), (.int (0)), (.int (0)), (.int (0)), (.int (0)), (.int (0)), (.int (0)), (.int (0)), (.int (0)), (.int (0)), (.int (0)), (.int (0)), (.int (0)), (.int (0)), (.int (0)), (.int (0)), (.int (0)), (.int (0)), (.int (0)), (.int (0)), (.int (0)), (.int (0)), (.int (0)), (.int (0)), (.int (0)), (.int (0)), (.int (0)), (.int (0)), (.int (0)), (.int (0)), (.int (0)), (.int (0)), (.int (0)), (.int (0)), (.int (0)), (.int (0)), (.int (0)), (.int (0)), (.int (0)), (.int (0)), (.int (0)), (.int (0)), (.int (0)), (.int (0)), (.int (0)), (.int (0)), (.int (0)), (.int (0)), (.int (0)), (.int (0)), (.int (0)), (.int (0)), (.int (0)), (.int (0)), (.int (0)), (.int (0)), (.int (0)), (.int (0)), (.int (0)), (.int (0)), (.int (0)), (.int (0)), (.int (0)), (.int (0)), (.int (0)), (.int (0)), (.int (0)), (.int (0)), (.int (0)), (.int (0)), (.int (0)), (.int (0)), (.int (0)), (.int (0)), (.int (0)), (.int (0)), (.int (0)), (.int (0)), (.int (0)), (.int (0)), (.int (0)), (.int (0)), (.int (0)), (.int (0)), (.int (0)), (.int (0)), (.int (0)), (.int (0)), (.int (0)), (.int (0)), (.int (0)), (.int (0)), (.int (0)), (.int (0)), (.int (0)), (.int (0)), (.int (0)), (.int (0)), (.int (0)), (.int (0)), (.int (0)), (.int (0)), (.int (0)), (.int (0)), (.int (0)), (.int (0)), (.int (0)), (.int (0)), (.int (0)), (.int (0)), (.int (0)), (.int (0)), (.int (0)), (.int (0)), (.int (0)), (.int (0)), (.int (0)), (.int (0)), (.int (0)), (.int (0)), (.int (0)), (.int (0)), (.int (0)), (.int (0)), (.int (0)), (.int (0)), (.int (0)), (.int (0)), (.int (0)), (.int (0)), (.int (0)), (.int (0)), (.int (0)), (.int (0)), (.int (0)), (.int (0)), (.int (0)), (.int (0)), (.int (0)), (.int (0)), (.int (0)), (.int (0)), (.int (0))]), some (.bl true), some (.int (100)), some (.bl false)], 2, []⟩]
def L4c17 : List Ev.St := [⟨[some (.ref 1), none, none, none, none, none, none, none, none, none, none, none, none, none, some (.tup [(.int (0)), (.int (0)), (.int (0)), (.int (0)), (.int (0)), (.int (0)), (.int (0)), (.int (0)), (.int (0)), (.int (0)), (.int (0)), (.int (0)), (.int (0)), (.int (0)), (.int (0)), (.int (0)), (.int (0)), (.int (0)), (.int (0)), (.int (0)), (.int (0)), (.int (0)), (.int (0)), (.int (0)), (.int (0)), (.int (0)), (.int (0)), (.int (0)), (.int (0)), (.int (0)), (.int (0)), (.int (0)), (.int (0)), (.int (0)), (.int (0)), (.int (0)), (.int (0)), (.int (0)), (.int (0)), (.int (0)), (.int (0)), (.int (0)), (.int (0)), (.int (0)), (.int (0)), (.int (0)), (.int (0)), (.int (0)), (.int (0)), (.int (0)), (.int (0)), (.int (0)), (.int (0)), (.int (0)), (.int (0)), (.int (0)), (.int (0)), (.int (0)), (.int (0)), (.int (0)), (.int (0)), (.int (0)), (.int (0)), (.int (0)), (.int (0)), (.int (0)), (.int (0)), (.int (0)), (.int (0)), (.int (0)), (.int (0)), (.int (0)), (.int (0)), (.int (0)), (.int (0)), (.int (0)), (.int (0)), (.int (0)), (.int (0)), (.int (0)), (.int (0)), (.int (0)), (.int (0)), (.int (0)), (.int (0)), (.int (0)), (.int (0)), (.int (0)), (.int (0)), (.int (0)), (.int (0)), (.int (0)), (.int (0)), (.int (0)), (.int (0)), (.int (0)), (.int (0)), (.int (0)), (.int (0)), (.int (0)), (.int (0)), (.int (0)), (.int (0)), (.int (0)), (.int (0)), (.int (0)), (.int (0)), (.int (0)), (.int (0)), (.int (0)), (.int (0)), (.int (0)), (.int (0)), (.int (0)), (.int (0)), (.int (0)), (.int (0)), (.int (0)), (.int (0)), (.int (0)), (.int (0)), (.int (0)), (.int (0)), (.int (0)), (.int (0)), (.int (0)), (.int (0)), (.int (0)), (.int (0)), (.int (0)), (.int (0)), (.int (0)), (.int (0)), (.int (0)), (.int (0)), (.int (0)), (.int (0)), (.int (0)), (.int (0)), (.int (0)), (.int (0)), (.int (0)), (.int (0)), (.int (0)), (.int (0)), (.int (0)), (.int (0)), (.int (0)), (.int (0)), (.int (0)), (.int (0)), (.int (0)), (.int (0)), (.int (0)), (.int (0)), (.int (0)), (.int (0)), (.int (0)), (.int (0)), (.int (0)), (.int (0)), (.int (0)), (.int (0)), (.int (0)), (.int (0)), (.int (0)), (.int (0)), (.int (0)), (.int (0)), (.int (0)), (.int (0)), (.int (0)), (.int (0)), (.int (0)), (.int (0)), (.int (0)), (.int (0)), (.int (0)), (.int (0)), (.int (0)), (.int (0)), (.int (0)), (.int (0)), (.int (0)), (.int (0)), (.int (0)), (.int (0)), (.int (0)), (.int (0)), (.int (0)), (.int (0)), (.int (0)), (.int (0)), (.int (0)), (.int (0)), (.int (0)), (.int (0)), (.int (0)), (.int (0)), (.int (0)), (.int (0)), (.int (0)), (.int (0)), (.int (0)), (.int (0)), (.int (0)), (.int (0)), (.int (0)), (.int (0)), (.int (0)), (.int (0)), (.int (0)), (.int (0)), (.int (0)), (.int (0)), (.int (0)), (.int (0)), (.int (0)), (.int (0)), (.int (0)), (.int (0)), (.int (0)), (.int (0)), (.int (0)), (.int (0)), (.int (0)), (.int (0)), (.int (0)), (.int (0)), (.int (0)), (.int (0)), (.int (0)), (.int (0)), (.int (0)), (.int (0)), (.int (0)), (.int (0)), (.int (0)), (.int (0)), (.int (0)), (.int (0)), (.int (0)), (.int (0)), (.int (0)), (.int (0)), (.int (0)), (.int (0)), (.int (0)), (.int (0)), (.int (0)), (.int (0)), (.int (0)), (.int (0)), (.int (0)), (.int (0)), (.int (0)), (.int (0)), (.int (0)), (.int (0)), (.int (0)), (.int (0)), (.int (0)), (.int (0)), (.int (0)), (.int (0)), (.int (0)), (.int (0)), (.int (0)), (.int (0)), (.int (0)), (.int (0)), (.int (0)), (.int (0)), (.int (0)), (.int (0)), (.int (0)), (.int (0)), (.int (0)), (.int (0)), (.int (0)), (.int (0)), (.int (0)), (.int (0)), (.int (0)), (.int (0)), (.int (0)), (.int (0)), (.int (0)), (.int (0)), (.int (0)), (.int (0)), (.int (0)), (.int (0)), (.int (0)), (.int (0)), (.int (0)), (.int (0)), (.int (0)), (.int (0)), (.int (0)), (.int (0)), (.int (0)), (.int (0)), (.int (0)), (.int (0)), (.int (0)), (.int (0)), (.int (0)), (.int (0)), (.int (0)), (.int (0)), (.int (0)), (.int (0)), (.int (0)), (.int (0)), (.int (0)), (.int (0)), (.int (0)), (.int (0)), (.int (0)), (.int (0)), (.int (0)), (.int (0)), (.int (0)), (.int (0)), (.int (0)), (.int (0)), (.int (0)), (.int (0)), (.int (0)), (.int (0)), (.int (0)), (.int (0)), (.int (0)), (.int (0)), (.int (0)), (.int (0)), (.int (0)), (.int (0)), (.int (0)), (.int (0)), (.int (0)), (.int (0)), (.int (0)), (.int (0)), (.int (0)), (.int (0)), (.int (0)), (.int (0)), (.int (0)), (.int (0)), (.int (0)), (.int (0)), (.int (0)), (.int (0)), (.int (0)), (.int (0)), (.int (0)), (.int (0)), (.int (0)), (.int (0)), (.int (0)), (.int (0)), (.int (0)), (.int (0)), (.int (0)), (.int (0)), (.int (0)), (.int (0)), (.int (0)), (.int (0)), (.int (0)), (.int (0)), (.int (0)), (.int (0)), (.int (0)), (.int (0)), (.int (0)), (.int (0)), (.int (0)), (.int (0)), (.int (0)), (.int (0)), (.int (0)), (.int (0)), (.int (0)), (.int (0)), (.int (0)), (.int (0)), (.int (0)), (.int (0)), (.int (0)), (.int (0)), (.int (0)), (.int (0)), (.int (0)), (.int (0)), (.int (0)), (.int (0)), (.int (0)), (.int (0)), (.int (0)), (.int (0)), (.int (0)), (.int (0)), (.int (0)), (.int (0)), (.int (0)), (.int (0)), (.int (0)), (.int (0)), (.int (0)), (.int (0)), (.int (0)), (.int (0)), (.int (0)), (.int (0)), (.int (0)), (.int (0)), (.int (0)), (.int (0)), (.int (0)), (.int (0)), (.int (0)), (.int (0)), (.int (0)), (.int (0)), (.int (0)), (.int (0)), (.int (0)), (.int (0)), (.int (0)), (.int (0)), (.int (0)), (.int (0)), (.int (0)), (.int (0)), (.int (0)), (.int (0)), (.int (0)), (.int (0)), (.int (0)), (.int (0)), (.int (0)), (.int (0)), (.int (0)), (.int (0)), (.int (0)), (.int (0)), (.int (0)), (.int (0)), (.int (0)), (.int (0)), (.int (0)), (.int (0)), (.int (0)), (.int (0)), (.int (0)), (.int (0)), (.int (0)), (.int (0)), (.int (0)), (.int (0)), (.int (0)), (.int (0)), (.int (0)), (.int (0)), (.int (0)), (.int (0)), (.int (0)), (.int (0)), (.int (0)), (.int (0)), (.int (0)), (.int (0)), (.int (0)), (.int (0)), (.int (0)), (.int (0)), (.int (0)), (.int (0)), (.int (0)), (.int (0)), (.int (0)), (.int (0)), (.int (0)), (.int (0)), (.int (0)), (.int (0)), (.int (0)), (.int (0)), (.int (0)), (.int (0)), (.int (0)), (.int (0)), (.int (0)), (.int (0)), (.int (0)), (.int (0)), (.int (0)), (.int (0)), (.int (0)), (.int (0)), (.int (0)), (.int (0)), (.int (0)), (.int (0)), (.int (0)), (.int (0)), (.int (0)), (.int (0)), (.int (0)), (.int (0)), (.int (0)), (.int (0)), (.int (0)), (.int (0)), (.int (0)), (.int (0)), (.int (0)), (.int (0)), (.int (0)), (.int (0)), (.int (0)), (.int (0)), (.int (0)), (.int (0)), (.int (0)), (.int (0)), (.int (0)), (.int (0)), (.int (0)), (.int (0)), (.int (0)), (.int (0)), (.int (0)), (.int (0)), (.int (0)), (.int (0)), (.int (0)), (.int (0)), (.int (0)), (.int (0)), (.int (0)), (.int (0)), (.int (0)), (.int (0)), (.int (0)), (.int (0)), (.int (0)), (.int (0)), (.int (0)), (.int (0)), (.int (0)), (.int (0)), (.int (0)), (.int (0)), (.int (0)), (.int (0)), (.int (0)), (.int (0)), (.int (0)), (.int (0)), (.int (0)), (.int (0)), (.int (0)), (.int (0)), (.int (0)), (.int (0)), (.int (0)), (.int (0)), (.int (0)), (.int (0)), (.int (0)), (.int (0)), (.int (0)), (.int (0)), (.int (0)), (.int (0)), (.int (0)), (.int (0)), (.int (0)), (.int (0)), (.int (0)), (.int (0)), (.int (0)), (.int (0)), (.int (0)), (.int (0)), (.int (0)), (.int (0)), (.int (0)), (.int (0)), (.int (0)), (.int (0)), (.int (0)), (.int (0)), (.int (0)), (.int (0)), (.int (0)), (.int (0)), (.int (0)), (.int (0)), (.int (0)), (.int (0)), (.int (0)), (.int (0)), (.int (0)), (.int (0)), (.int (0)), (.int (0)), (.int (0)), (.int (0)), (.int (0)), (.int (0)), (.int (0)), (.int (0)), (.int (0)), (.int (0)), (.int (0)), (.int (0)), (.int (0)), (.int (0)), (.int (0)), (.int (0)), (.int (0)), (.int (0)), (.int (0)), (.int (0)), (.int (0)), (.int (0)), (.int (0)), (.int (0)), (.int (0)), (.int (0)), (.int (0)), (.int (0)), (.int (0)), (.int (0)), (.int (0)), (.int (0)), (.int (0)), (.int (0)), (.int (0)), (.int (0)), (.int (0)), (.int (0)), (.int (0)), (.int (0)), (.int (0)), (.int (0)), (.int (0)), (.int (0)), (.int (0)), (.int (0)), (.int (0)), (.int (0)), (.int (0)), (.int (0)), (.int (0)), (.int (0)), (.int (0)), (.int (0)), (.int (0)), (.int (0)), (.int (0)), (.int (0)), (.int (0)), (.int (0)), (.int (0)), (.int (0)), (.int (0)), (.int (0)), (.int (0)), (.int (0)), (.int (0)), (.int (0)), (.int (0)), (.int (0)), (.int (0)), (.int (0)), (.int (0)), (.int (0)), (.int (0)), (.int (0)), (.int (0)), (.int (0)), (.int (0)), (.int (0)), (.int (0)), (.int (0)), (.int (0)), (.int (0)), (.int (0)), (.int (0)), (.int (0)), (.int (0)), (.int (0)), (.int (0)), (.int (0)), (.int (0)), (.int (0)), (.int (0)), (.int (0)), (.int (0)), (.int (0)), (.int (0)), (.int (0)), (.int (0)), (.int (0)), (.int (0)), (.int (0)), (.int (0)), (.int (0)), (.int (0)), (.int (0)), (.int (0)), (.int (0)), (.int (0)), (.int (0)), (.int (0)), (.int (0)), (.int (0)), (.int (0)), (.int (0)), (.int (0)), (.int (0)), (.int (0)), (.int (0)), (.int (0)), (.int (0)), (.int (0)), (.int (0)), (.int (0)), (.int (0)), (.int (0)), (.int (0)), (.int (0)), (.int (0)), (.int (0)), (.int (0)), (.int (0)), (.int (0)), (.int (0)), (.int (0)), (.int (0)), (.int (0)), (.int (0)), (.int (0)), (.int (0)), (.int (0)), (.int (0)), (.int (0)), (.int (0)), (.int (0)), (.int (0)), (.int (0)), (.int (0)), (.int (0)), (.int (0)), (.int (0)), (.int (0)), (.int (0)), (.int (0)), (.int (0)), (.int (0)), (.int (0)), (.int (0)), (.int (0)), (.int (0)), (.int (0)), (.int (0)), (.int (0)), (.int (0)), (.int (0)), (.int (0)), (.int (0)), (.int (0)), (.int (0)), (.int (0)), (.int (0)), (.int (0)), (.int (0)), (.int (0)), (.int (0)), (.int (0)), (.int (0)), (.int (0)), (.int (0)), (.int (0)), (.int (0)), (.int (0)), (.int (0)), (.int (0)), (.int (0)), (.int (0)), (.int (0)), (.int (0)), (.int (0)), (.int (0)), (.int (0)), (.int (0)), (.int (0)), (.int (0)), (.int (0)), (.int (0)), (.int (0)), (.int (0)), (.int (0)), (.int (0)), (.int (0)), (.int (0)), (.int (0)), (.int (0)), (.int (0)), (.int (0)), (.int (0)), (.int (0)), (.int (0)), (.int (0)), (.int (0)), (.int (0)), (.int (0)), (.int (0)), (.int (0)), (.int (0)), (.int (0)), (.int (0)), (.int (0)), (.int (0)), (.int (0)), (.int (0)), (.int (0)), (.int (0)), (.int (0)), (.int (0)), (.int (0)), (.int (0)), (.int (0)), (.int (0)), (.int (0)), (.int (0)), (.int (0)), (.int (0)), (.int (0)), (.int (0)), (.int (0)), (.int (0)), (.int (0)), (.int (0)), (.int (0)), (.int (0)), (.int (0)), (.int (0)), (.int (0)), (.int (0)), (.int (0)), (.int (0)), (.int (0)), (.int (0)), (.int (0)), (.int (0)), (.int (0)), (.int (0)), (.int (0)), (.int (0)), (.int (0)), (.int (0)), (.int (0)), (.int (0)), (.int (0)), (.int (0)), (.int (0)), (.int (0)), (.int (0)), (.int (0)), (.int (0)), (.int (0)), (.int (0)), (.int (0)), (.int (0)), (.int (0)), (.int (0)), (.int (0)), (.int (0)), (.int (0)), (.int (0)), (.int (0)), (.int (0)), (.int (0)), (.int (0)), (.int (0)), (.int (0)), (.int (0)), (.int (0)), (.int (0)), (.int (0)), (.int (0)), (.int (0)), (.int (0)), (.int (0)), (.int (0)), (.int (0)), (.int (0)), (.int (0)), (.int (0)), (.int (0)), (.int (0)), (.int (0)), (.int (0)), (.int (0)), (.int (0)), (.int (0)), (.int (0)), (.int (0)), (.int (0)), (.int (0)), (.int (0)), (.int (0)), (.int (0)), (.int (0)), (.int (0)), (.int (0)), (.int (0)), (.int (0)), (.int (0)), (.int (0)), (.int (0)), (.int (0)), (.int (0)), (.int (0)), (.int (0)), (.int (0)), (.int (0)), (.int (0)), (.int (0)), (.int (0)), (.int (0)), (.int (0)), (.int (0)), (.int (0)), (.int (0)), (.int (0)), (.int (0)), (.int (0)), (.int (0)), (.int (0)), (.int (0)), (.int (0)), (.int (0)), (.int (0)), (.int (0)), (.int (0)), (.int (0)), (.int (0)), (.int (0)), (.int (0)), (.int (0)), (.int (0)), (.int (0)), (.int (0)), (.int (0)), (.int (0)), (.int (0)), (.int (0)), (.int (0)), (.int (0)), (.int (0)), (.int (0)), (.int (0)), (.int (0)), (.int (0)), (.int (0)), (.int (0)), (.int (0)), (.int (0)), (.int (0)), (.int (0)), (.int (0)), (.int (0)), (.int (0)), (.int (0)), (.int (0)), (.int (0)), (.int (0)), (.int (0)), (.int (0)), (.int (0)), (.int (0)), (.int (0)), (.int (0)), (.int (0)), (.int (0)), (.int (0)), (.int (0)), (.int (0)), (.int (0)), (.int (0)), (.int (0)), (.int (0)), (.int (0)), (.int (0))]), some (.bl true), some (.int (-1)), some (.bl true)], 2, []⟩,
  ⟨[some (.ref 1), none, none, none, none, none, none, none, none, none, none, none, none, none, some (.tup [(.int (0)), (.int (0)), (.int (0)), (.int (0)), (.int (0)), (.int (0)), (.int (0)), (.int (0)), (.int (0)), (.int (0)), (.int (0)), (.int (0)), (.int (0)), (.int (0)), (.int (0)), (.int (0)), (.int (0)), (.int (0)), (.int (0)), (.int (0)), (.int (0)), (.int (0)), (.int (0)), (.int (0)), (.int (0)), (.int (0)), (.int (0)), (.int (0)), (.int (0)), (.int (0)), (.int (0)), (.int (0)), (.int (0)), (.int (0)), (.int (0)), (.int (0)), (.int (0)), (.int (0)), (.int (0)), (.int (0)), (.int (0)), (.int (0)), (.int (0)), (.int (0)), (.int (0)), (.int (0)), (.int (0)), (.int (0)), (.int (0)), (.int (0)), (.int (0)), (.int (0)), (.int (0)), (.int (0)), (.int (0)), (.int (0)), (.int (0)), (.int (0)), (.int (0)), (.int (0)), (.int (0)), (.int (0)), (.int (0)), (.int (0)), (.int (0)), (.int (0)), (.int (0)), (.int (0)), (.int (0)), (.int (0)), (.int (0)), (.int (0)), (.int (0)), (.int (0)), (.int (0)), (.int (0)), (.int (0)), (.int (0)), (.int (0)), (.int (0)), (.int (0)), (.int (0)), (.int (0)), (.int (0)), (.int (0)), (.int (0)), (.int (0)), (.int (0)), (.int (0)), (.int (0)), (.int (0)), (.int (0)), (.int (0)), (.int (0)), (.int (0)), (.int (0)), (.int (0)), (.int (0)), (.int (0)), (.int (0)), (.int (0)), (.int (0)), (.int (0)), (.int (0)), (.int (0)), (.int (0)), (.int (0)), (.int (0)), (.int (0)), (.int (0)), (.int (0)), (.int (0)), (.int (0)), (.int (0)), (.int (0)), (.int (0)), (.int (0)), (.int (0)), (.int (0)), (.int (0)), (.int (0)), (.int (0)), (.int (0)), (.int (0)), (.int (0)), (.int (0)), (.int (0)), (.int (0)), (.int (0)), (.int (0)), (.int (0)), (.int (0)), (.int (0)), (.int (0)), (.int (0)), (.int (0)), (.int (0)), (.int (0)), (.int (0)), (.int (0)), (.int (0)), (.int (0)), (.int (0)), (.int (0)), (.int (0)), (.int (0)), (.int (0)), (.int (0)), (.int (0)), (.int (0)), (.int (0)), (.int (0)), (.int (0)), (.int (0)), (.int (0)), (.int (0)), (.int (0)), (.int (0)), (.int (0)), (.int (0)), (.int (0)), (.int (0)), (.int (0)), (.int (0)), (.int (0)), (.int (0)), (.int (0)), (.int (0)), (.int (0)), (.int (0)), (.int (0)), (.int (0)), (.int (0)), (.int (0)), (.int (0)), (.int (0)), (.int (0)), (.int (0)), (.int (0)), (.int (0)), (.int (0)), (.int (0)), (.int (0)), (.int (0)), (.int (0)), (.int (0)), (.int (0)), (.int (0)), (.int (0)), (.int (0)), (.int (0)), (.int (0)), (.int (0)), (.int (0)), (.int (0)), (.int (0)), (.int (0)), (.int (0)), (.int (0)), (.int (0)), (.int (0)), (.int (0)), (.int (0)), (.int (0)), (.int (0)), (.int (0)), (.int (0)), (.int (0)), (.int (0)), (.int (0)), (.int (0)), (.int (0)), (.int (0)), (.int (0)), (.int (0)), (.int (0)), (.int (0)), (.int (0)), (.int (0)), (.int (0)), (.int (0)), (.int (0)), (.int (0)), (.int (0)), (.int (0)), (.int (0)), (.int (0)), (.int (0)), (.int (0)), (.int (0)), (.int (0)), (.int (0)), (.int (0)), (.int (0)), (.int (0)), (.int (0)), (.int (0)), (.int (0)), (.int (0)), (.int (0)), (.int (0)), (.int (0)), (.int (0)), (.int (0)), (.int (0)), (.int (0)), (.int (0)), (.int (0)), (.int (0)), (.int (0)), (.int (0)), (.int (0)), (.int (0)), (.int (0)), (.int (0)), (.int (0)), (.int (0)), (.int (0)), (.int (0)), (.int (0)), (.int (0)), (.int (0)), (.int (0)), (.int (0)), (.int (0)), (.int (0)), (.int (0)), (.int (0)), (.int (0)), (.int (0)), (.int (0)), (.int (0)), (.int (0)), (.int (0)), (.int (0)), (.int (0)), (.int (0)), (.int (0)), (.int (0)), (.int (0)), (.int (0)), (.int (0)), (.int (0)), (.int (0)), (.int (0)), (.int (0)), (.int (0)), (.int (0)), (.int (0)), (.int (0)), (.int (0)), (.int (0)), (.int (0)), (.int (0)), (.int (0)), (.int (0)), (.int (0)), (.int (0)), (.int (0)), (.int (0)), (.int (0)), (.int (0)), (.int (0)), (.int (0)), (.int (0)), (.int (0)), (.int (0)), (.int (0)), (.int (0)), (.int (0)), (.int (0)), (.int (0)), (.int (0)), (.int (0)), (.int (0)), (.int (0)), (.int (0)), (.int (0)), (.int (0)), (.int (0)), (.int (0)), (.int (0)), (.int (0)), (.int (0)), (.int (0)), (.int (0)), (.int (0)), (.int (0)), (.int (0)), (.int (0)), (.int (0)), (.int (0)), (.int (0)), (.int (0)), (.int (0)), (.int (0)), (.int (0)), (.int (0)), (.int (0)), (.int (0)), (.int (0)), (.int (0)), (.int (0)), (.int (0)), (.int (0)), (.int (0)), (.int (0)), (.int (0)), (.int (0)), (.int (0)), (.int (0)), (.int (0)), (.int (0)), (.int (0)), (.int (0)), (.int (0)), (.int (0)), (.int (0)), (.int (0)), (.int (0)), (.int (0)), (.int (0)), (.int (0)), (.int (0)), (.int (0)), (.int (0)), (.int (0)), (.int (0)), (.int (0)), (.int (0)), (.int (0)), (.int (0)), (.int (0)), (.int (0)), (.int (0)), (.int (0)), (.int (0)), (.int (0)), (.int (0)), (.int (0)), (.int (0)), (.int (0)), (.int (0)), (.int (0)), (.int (0)), (.int (0)), (.int (0)), (.int (0)), (.int (0)), (.int (0)), (.int (0)), (.int (0)), (.int (0)), (.int (0)), (.int (0)), (.int (0)), (.int (0)), (.int (0)), (.int (0)), (.int (0)), (.int (0)), (.int (0)), (.int (0)), (.int (0)), (.int (0)), (.int (0)), (.int (0)), (.int (0)), (.int (0)), (.int (0)), (.int (0)), (.int (0)), (.int (0)), (.int (0)), (.int (0)), (.int (0)), (.int (0)), (.int (0)), (.int (0)), (.int (0)), (.int (0)), (.int (0)), (.int (0)), (.int (0)), (.int (0)), (.int (0)), (.int (0)), (.int (0)), (.int (0)), (.int (0)), (.int (0)), (.int (0)), (.int (0)), (.int (0)), (.int (0)), (.int (0)), (.int (0)), (.int (0)), (.int (0)), (.int (0)), (.int (0)), (.int (0)), (.int (0)), (.int (0)), (.int (0)), (.int (0)), (.int (0)), (.int (0)), (.int (0)), (.int (0)), (.int (0)), (.int (0)), (.int (0)), (.int (0)), (.int (0)), (.int (0)), (.int (0)), (.int (0)), (.int (0)), (.int (0)), (.int (0)), (.int (0)), (.int (0)), (.int (0)), (.int (0)), (.int (0)), (.int (0)), (.int (0)), (.int (0)), (.int (0)), (.int (0)), (.int (0)), (.int (0)), (.int (0)), (.int (0)), (.int (0)), (.int (0)), (.int (0)), (.int (0)), (.int (0)), (.int (0)), (.int (0)), (.int (0)), (.int (0)), (.int (0)), (.int (0)), (.int (0)), (.int (0)), (.int (0)), (.int (0)), (.int (0)), (.int (0)), (.int (0)), (.int (0)), (.int (0)), (.int (0)), (.int (0)), (.int (0)), (.int (0)), (.int (0)), (.int (0)), (.int (0)), (.int (0)), (.int (0)), (.int (0)), (.int (0)), (.int (0)), (.int (0)), (.int (0)), (.int (0)), (.int (0)), (.int (0)), (.int (0)), (.int (0)), (.int (0)), (.int (0)), (.int (0)), (.int (0)), (.int (0)), (.int (0)), (.int (0)), (.int (0)), (.int (0)), (.int (0)), (.int (0)), (.int (0)), (.int (0)), (.int (0)), (.int (0)), (.int (0)), (.int (0)), (.int (0)), (.int (0)), (.int (0)), (.int (0)), (.int (0)), (.int (0)), (.int (0)), (.int (0)), (.int (0)), (.int (0)), (.int (0)), (.int (0)), (.int (0)), (.int (0)), (.int (0)), (.int (0)), (.int (0)), (.int (0)), (.int (0)), (.int (0)), (.int (0)), (.int (0)), (.int (0)), (.int (0)), (.int (0)), (.int (0)), (.int (0)), (.int (0)), (.int (0)), (.int (0)), (.int (0)), (.int (0)), (.int (0)), (.int (0)), (.int (0)), (.int (0)), (.int (0)), (.int (0)), (.int (0)), (.int (0)), (.int (0)), (.int (0)), (.int (0)), (.int (0)), (.int (0)), (.int (0)), (.int (0)), (.int (0)), (.int (0)), (.int (0)), (.int (0)), (.int (0)), (.int (0)), (.int (0)), (.int (0)), (.int (0)), (.int (0)), (.int (0)), (.int (0)), (.int (0)), (.int (0)), (.int (0)), (.int (0)), (.int (0)), (.int (0)), (.int (0)), (.int (0)), (.int (0)), (.int (0)), (.int (0)), (.int (0)), (.int (0)), (.int (0)), (.int (0)), (.int (0)), (.int (0)), (.int (0)), (.int (0)), (.int (0)), (.int (0)), (.int (0)), (.int (0)), (.int (0)), (.int (0)), (.int (0)), (.int (0)), (.int (0)), (.int (0)), (.int (0)), (.int (0)), (.int (0)), (.int (0)), (.int (0)), (.int (0)), (.int (0)), (.int (0)), (.int (0)), (.int (0)), (.int (0)), (.int (0)), (.int (0)), (.int (0)), (.int (0)), (.int (0)), (.int (0)), (.int (0)), (.int (0)), (.int (0)), (.int (0)), (.int (0)), (.int (0)), (.int (0)), (.int (0)), (.int (0)), (.int (0)), (.int (0)), (.int (0)), (.int (0)), (.int (0)), (.int (0)), (.int (0)), (.int (0)), (.int (0)), (.int (0)), (.int (0)), (.int (0)), (.int (0)), (.int (0)), (.int (0)), (.int (0)), (.int (0)), (.int (0)), (.int (0)), (.int (0)), (.int (0)), (.int (0)), (.int (0)), (.int (0)), (.int (0)), (.int (0)), (.int (0)), (.int (0)), (.int (0)), (.int (0)), (.int (0)), (.int (0)), (.int (0)), (.int (0)), (.int (0)), (.int (0)), (.int (0)), (.int (0)), (.int (0)), (.int (0)), (.int (0)), (.int (0)), (.int (0)), (.int (0)), (.int (0)), (.int (0)), (.int (0)), (.int (0)), (.int (0)), (.int (0)), (.int (0)), (.int (0)), (.int (0)), (.int (0)), (.int (0)), (.int (0)), (.int (0)), (.int (0)), (.int (0)), (.int (0)), (.int (0)), (.int (0)), (.int (0)), (.int (0)), (.int (0)), (.int (0)), (.int (0)), (.int (0)), (.int (0)), (.int (0)), (.int (0)), (.int (0)), (.int (0)), (.int (0)), (.int (0)), (.int (0)), (.int (0)), (.int (0)), (.int (0)), (.int (0)), (.int (0)), (.int (0)), (.int (0)), (.int (0)), (.int (0)), (.int (0)), (.int (0)), (.int (0)), (.int (0)), (.int (0)), (.int (0)), (.int (0)), (.int (0)), (.int (0)), (.int (0)), (.int (0)), (.int (0)), (.int (0)), (.int (0)), (.int (0)), (.int (0)), (.int (0)), (.int (0)), (.int (0)), (.int (0)), (.int (0)), (.int (0)), (.int (0)), (.int (0)), (.int (0)), (.int (0)), (.int (0)), (.int (0)), (.int (0)), (.int (0)), (.int (0)), (.int (0)), (.int (0)), (.int (0)), (.int (0)), (.int (0)), (.int (0)), (.int (0)), (.int (0)), (.int (0)), (.int (0)), (.int (0)), (.int (0)), (.int (0)), (.int (0)), (.int (0)), (.int (0)), (.int (0)), (.int (0)), (.int (0)), (.int (0)), (.int (0)), (.int (0)), (.int (0)), (.int (0)), (.int (0)), (.int (0)), (.int (0)), (.int (0)), (.int (0)), (.int (0)), (.int (0)), (.int (0)), (.int (0)), (.int (0)), (.int (0)), (.int (0)), (.int (0)), (.int (0)), (.int (0)), (.int (0)), (.int (0)), (.int (0)), (.int (0)), (.int (0)), (.int (0)), (.int (0)), (.int (0)), (.int (0)), (.int (0)), (.int (0)), (.int (0)), (.int (0)), (.int (0)), (.int (0)), (.int (0)), (.int (0)), (.int (0)), (.int (0)), (.int (0)), (.int (0)), (.int (0)), (.int (0)), (.int (0)), (.int (0)), (.int (0)), (.int (0)), (.int (0)), (.int (0)), (.int (0)), (.int (0)), (.int (0)), (.int (0)), (.int (0)), (.int (0)), (.int (0)), (.int (0)), (.int (0)), (.int (0)), (.int (0)), (.int (0)), (.int (0)), (.int (0)), (.int (0)), (.int (0)), (.int (0)), (.int (0)), (.int (0)), (.int (0)), (.int (0)), (.int (0)), (.int (0)), (.int (0)), (.int (0)), (.int (0)), (.int (0)), (.int (0)), (.int (0)), (.int (0)), (.int (0)), (.int (0)), (.int (0)), (.int (0)), (.int (0)), (.int (0)), (.int (0)), (.int (0)), (.int (0)), (.int (0)), (.int (0)), (.int (0)), (.int (0)), (.int (0)), (.int (0)), (.int (0)), (.int (0)), (.int (0)), (.int (0)), (.int (0)), (.int (0)), (.int (0)), (.int (0)), (.int (0)), (.int (0)), (.int (0)), (.int (0)), (.int (0)), (.int (0)), (.int (0)), (.int (0)), (.int (0)), (.int (0)), (.int (0)), (.int (0)), (.int (0)), (.int (0)), (.int (0)), (.int (0)), (.int (0)), (.int (0)), (.int (0)), (.int (0)), (.int (0)), (.int (0)), (.int (0)), (.int (0)), (.int (0)), (.int (0)), (.int (0)), (.int (0)), (.int (0)), (.int (0)), (.int (0)), (.int (0)), (.int (0)), (.int (0)), (.int (0)), (.int (0)), (.int (0)), (.int (0)), (.int (0)), (.int (0)), (.int (0)), (.int (0)), (.int (0)), (.int (0)), (.int (0)), (.int (0)), (.int (0)), (.int (0)), (.int (0)), (.int (0)), (.int (0)), (.int (0)), (.int (0)), (.int (0)), (.int (0)), (.int (0)), (.int (0)), (.int (0)), (.int (0)), (.int (0)), (.int (0)), (.int (0)), (.int (0)), (.int (0)), (.int (0)), (.int (0)), (.int (0)), (.int (0)), (.int (0)), (.int (0)), (.int (0)), (.int (0)), (.int (0)), (.int (0)), (.int (0)), (.int (0)), (.int (0)), (.int (0)), (.int (0)), (.int (0)), (.int (0)), (.int (0)), (.int (0)), (.int (0)), (.int (0)), (.int (0)), (.int (0)), (.int (0)), (.int (0)), (.int (0)), (.int (0)), (.int (0)), (.int (0)), (.int (0)), (.int (0)), (.int (0)), (.int (0)), (.int (0)), (.int (0)), (.int (0)), (.int (0)), (.int (0)), (.int (0)), (.int (0)), (.int (0)), (.int (0)), (.int (0)), (.int (0)), (.int (0)), (.int (0)), (.int (0)), (.int (0)), (.int (0)), (.int (0)), (.int (0)), (.int (0)), (.int (0)), (.int (0)), (.int (0)), (.int (0))]), some (.bl true), some (.int (101)), some (.bl true)], 2, []⟩,
  ⟨[some (.ref 1), none, none, none, none, none, none, none, none, none, none, none, none, none, some (.tup [(.int (0)), (.int (0)), (.int (0)), (.int (0)), (.int (0)), (.int (0)), (.int (0)), (.int (0)), (.int (0)), (.int (0)), (.int (0)), (.int (0)), (.int (0)), (.int (0)), (.int (0)), (.int (0)), (.int (0)), (.int (0)), (.int (0)), (.int (0)), (.int (0)), (.int (0)), (.int (0)), (.int (0)), (.int (0)), (.int (0)), (.int (0)), (.int (0)), (.int (0)), (.int (0)), (.int (0)), (.int (0)), (.int (0)), (.int (0)), (.int (0)), (.int (0)), (.int (0)), (.int (0)), (.int (0)), (.int (0)), (.int (0)), (.int (0)), (.int (0)), (.int (0)), (.int (0)), (.int (0)), (.int (0)), (.int (0)), (.int (0)), (.int (0)), (.int (0)), (.int (0)), (.int (0)), (.int (0)), (.int (0)), (.int (0)), (.int (0)), (.int (0)), (.int (0)), (.int (0)), (.int (0)), (.int (0)), (.int (0)), (.int (0)), (.int (0)), (.int (0)), (.int (0)), (.int (0)), (.int (0)), (.int (0)), (.int (0)), (.int (0)), (.int (0)), (.int (0)), (.int (0)), (.int (0)), (.int (0)), (.int (0)), (.int (0)), (.int (0)), (.int (0)), (.int (0)), (.int (0)), (.int (0)), (.int (0)), (.int (0)), (.int (0)), (.int (0)), (.int (0)), (.int (0)), (.int (0)), (.int (0)), (.int (0)), (.int (0)), (.int (0)), (.int (0)), (.int (0)), (.int (0)), (.int (0)), (.int (0)), (.int (0)), (.int (0)), (.int (0)), (.int (0)), (.int (0)), (.int (0)), (.int (0)), (.int (0)), (.int (0)), (.int (0)), (.int (0)), (.int (0)), (.int (0)), (.int (0)), (.int (0)), (.int (0)), (.int (0)), (.int (0)), (.int (0)), (.int (0)), (.int (0)), (.int (0)), (.int (0)), (.int (0)), (.int (0)), (.int (0)), (.int (0)), (.int (0)), (.int (0)), (.int (0)), (.int (0)), (.int (0)), (.int (0)), (.int (0)), (.int (0)), (.int (0)), (.int (0)), (.int (0)), (.int (0)), (.int (0)), (.int (0)), (.int (0)), (.int (0)), (.int (0)), (.int (0)), (.int (0)), (.int (0)), (.int (0)), (.int (0)), (.int (0)), (.int (0)), (.int (0)), (.int (0)), (.int (0)), (.int (0)), (.int (0)), (.int (0)), (.int (0)), (.int (0)), (.int (0)), (.int (0)), (.int (0)), (.int (0)), (.int (0)), (.int (0)), (.int (0)), (.int (0)), (.int (0)), (.int (0)), (.int (0)), (.int (0)), (.int (0)), (.int (0)), (.int (0)), (.int (0)), (.int (0)), (.int (0)), (.int (0)), (.int (0)), (.int (0)), (.int (0)), (.int (0)), (.int (0)), (.int (0)), (.int (0)), (.int (0)), (.int (0)), (.int (0)), (.int (0)), (.int (0)), (.int (0)), (.int (0)), (.int (0)), (.int (0)), (.int (0)), (.int (0)), (.int (0)), (.int (0)), (.int (0)), (.int (0)), (.int (0)), (.int (0)), (.int (0)), (.int (0)), (.int (0)), (.int (0)), (.int (0)), (.int (0)), (.int (0)), (.int (0)), (.int (0)), (.int (0)), (.int (0)), (.int (0)), (.int (0)), (.int (0)), (.int (0)), (.int (0)), (.int (0)), (.int (0)), (.int (0)), (.int (0)), (.int (0)), (.int (0)), (.int (0)), (.int (0)), (.int (0)), (.int (0)), (.int (0)), (.int (0)), (.int (0)), (.int (0)), (.int (0)), (.int (0)), (.int (0)), (.int (0)), (.int (0)), (.int (0)), (.int (0)), (.int (0)), (.int (0)), (.int (0)), (.int (0)), (.int (0)), (.int (0)), (.int (0)), (.int (0)), (.int (0)), (.int (0)), (.int (0)), (.int (0)), (.int (0)), (.int (0)), (.int (0)), (.int (0)), (.int (0)), (.int (0)), (.int (0)), (.int (0)), (.int (0)), (.int (0)), (.int (0)), (.int (0)), (.int (0)), (.int (0)), (.int (0)), (.int (0)), (.int (0)), (.int (0)), (.int (0)), (.int (0)), (.int (0)), (.int (0)), (.int (0)), (.int (0)), (.int (0)), (.int (0)), (.int (0)), (.int (0)), (.int (0)), (.int (0)), (.int (0)), (.int (0)), (.int (0)), (.int (0)), (.int (0)), (.int (0)), (.int (0)), (.int (0)), (.int (0)), (.int (0)), (.int (0)), (.int (0)), (.int (0)), (.int (0)), (.int (0)), (.int (0)), (.int (0)), (.int (0)), (.int (0)), (.int (0)), (.int (0)), (.int (0)), (.int (0)), (.int (0)), (.int (0)), (.int (0)), (.int (0)), (.int (0)), (.int (0)), (.int (0)), (.int (0)), (.int (0)), (.int (0)), (.int (0)), (.int (0)), (.int (0)), (.int (0)), (.int (0)), (.int (0)), (.int (0)), (.int (0)), (.int (0)), (.int (0)), (.int (0)), (.int (0)), (.int (0)), (.int (0)), (.int (0)), (.int (0)), (.int (0)), (.int (0)), (.int (0)), (.int (0)), (.int (0)), (.int (0)), (.int (0)), (.int (0)), (.int (0)), (.int (0)), (.int (0)), (.int (0)), (.int (0)), (.int (0)), (.int (0)), (.int (0)), (.int (0)), (.int (0)), (.int (0)), (.int (0)), (.int (0)), (.int (0)), (.int (0)), (.int (0)), (.int (0)), (.int (0)), (.int (0)), (.int (0)), (.int (0)), (.int (0)), (.int (0)), (.int (0)), (.int (0)), (.int (0)), (.int (0)), (.int (0)), (.int (0)), (.int (0)), (.int (0)), (.int (0)), (.int (0)), (.int (0)), (.int (0)), (.int (0)), (.int (0)), (.int (0)), (.int (0)), (.int (0)), (.int (0)), (.int (0)), (.int (0)), (.int (0)), (.int (0)), (.int (0)), (.int (0)), (.int (0)), (.int (0)), (.int (0)), (.int (0)), (.int (0)), (.int (0)), (.int (0)), (.int (0)), (.int (0)), (.int (0)), (.int (0)), (.int (0)), (.int (0)), (.int (0)), (.int (0)), (.int (0)), (.int (0)), (.int (0)), (.int (0)), (.int (0)), (.int (0)), (.int (0)), (.int (0)), (.int (0)), (.int (0)), (.int (0)), (.int (0)), (.int (0)), (.int (0)), (.int (0)), (.int (0)), (.int (0)), (.int (0)), (.int (0)), (.int (0)), (.int (0)), (.int (0)), (.int (0)), (.int (0)), (.int (0)), (.int (0)), (.int (0)), (.int (0)), (.int (0)), (.int (0)), (.int (0)), (.int (0)), (.int (0)), (.int (0)), (.int (0)), (.int (0)), (.int (0)), (.int (0)), (.int (0)), (.int (0)), (.int (0)), (.int (0)), (.int (0)), (.int (0)), (.int (0)), (.int (0)), (.int (0)), (.int (0)), (.int (0)), (.int (0)), (.int (0)), (.int (0)), (.int (0)), (.int (0)), (.int (0)), (.int (0)), (.int (0)), (.int (0)), (.int (0)), (.int (0)), (.int (0)), (.int (0)), (.int (0)), (.int (0)), (.int (0)), (.int (0)), (.int (0)), (.int (0)), (.int (0)), (.int (0)), (.int (0)), (.int (0)), (.int (0)), (.int (0)), (.int (0)), (.int (0)), (.int (0)), (.int (0)), (.int (0)), (.int (0)), (.int (0)), (.int (0)), (.int (0)), (.int (0)), (.int (0)), (.int (0)), (.int (0)), (.int (0)), (.int (0)), (.int (0)), (.int (0)), (.int (0)), (.int (0)), (.int (0)), (.int (0)), (.int (0)), (.int (0)), (.int (0)), (.int (0)), (.int (0)), (.int (0)), (.int (0)), (.int (0)), (.int (0)), (.int (0)), (.int (0)), (.int (0)), (.int (0)), (.int (0)), (.int (0)), (.int (0)), (.int (0)), (.int (0)), (.int (0)), (.int (0)), (.int (0)), (.int (0)), (.int (0)), (.int (0)), (.int (0)), (.int (0)), (.int (0)), (.int (0)), (.int (0)), (.int (0)), (.int (0)), (.int (0)), (.int (0)), (.int (0)), (.int (0)), (.int (0)), (.int (0)), (.int (0)), (.int (0)), (.int (0)), (.int (0)), (.int (0)), (.int (0)), (.int (0)), (.int (0)), (.int (0)), (.int (0)), (.int (0)), (.int (0)), (.int (0)), (.int (0)), (.int (0)), (.int (0)), (.int (0)), (.int (0)), (.int (0)), (.int (0)), (.int (0)), (.int (0)), (.int (0)), (.int (0)), (.int (0)), (.int (0)), (.int (0)), (.int (0)), (.int (0)), (.int (0)), (.int (0)), (.int (0)), (.int (0)), (.int (0)), (.int (0)), (.int (0)), (.int (0)), (.int (0)), (.int (0)), (.int (0)), (.int (0)), (.int (0)), (.int (0)), (.int (0)), (.int (0)), (.int (0)), (.int (0)), (.int (0)), (.int (0)), (.int (0)), (.int (0)), (.int (0)), (.int (0)), (.int (0)), (.int (0)), (.int (0)), (.int (0)), (.int (0)), (.int (0)), (.int (0)), (.int (0)), (.int (0)), (.int (0)), (.int (0)), (.int (0)), (.int (0)), (.int (0)), (.int (0)), (.int (0)), (.int (0)), (.int (0)), (.int (0)), (.int (0)), (.int (0)), (.int (0)), (.int (0)), (.int (0)), (.int (0)), (.int (0)), (.int (0)), (.int (0)), (.int (0)), (.int (0)), (.int (0)), (.int (0)), (.int (0)), (.int (0)), (.int (0)), (.int (0)), (.int (0)), (.int (0)), (.int (0)), (.int (0)), (.int (0)), (.int (0)), (.int (0)), (.int (0)), (.int (0)), (.int (0)), (.int (0)), (.int (0)), (.int (0)), (.int (0)), (.int (0)), (.int (0)), (.int (0)), (.int (0)), (.int (0)), (.int (0)), (.int (0)), (.int (0)), (.int (0)), (.int (0)), (.int (0)), (.int (0)), (.int (0)), (.int (0)), (.int (0)), (.int (0)), (.int (0)), (.int (0)), (.int (0)), (.int (0)), (.int (0)), (.int (0)), (.int (0)), (.int (0)), (.int (0)), (.int (0)), (.int (0)), (.int (0)), (.int (0)), (.int (0)), (.int (0)), (.int (0)), (.int (0)), (.int (0)), (.int (0)), (.int (0)), (.int (0)), (.int (0)), (.int (0)), (.int (0)), (.int (0)), (.int (0)), (.int (0)), (.int (0)), (.int (0)), (.int (0)), (.int (0)), (.int (0)), (.int (0)), (.int (0)), (.int (0)), (.int (0)), (.int (0)), (.int (0)), (.int (0)), (.int (0)), (.int (0)), (.int (0)), (.int (0)), (.int (0)), (.int (0)), (.int (0)), (.int (0)), (.int (0)), (.int (0)), (.int (0)), (.int (0)), (.int (0)), (.int (0)), (.int (0)), (.int (0)), (.int (0)), (.int (0)), (.int (0)), (.int (0)), (.int (0)), (.int (0)), (.int (0)), (.int (0)), (.int (0)), (.int (0)), (.int (0)), (.int (0)), (.int (0)), (.int (0)), (.int (0)), (.int (0)), (.int (0)), (.int (0)), (.int (0)), (.int (0)), (.int (0)), (.int (0)), (.int (0)), (.int (0)), (.int (0)), (.int (0)), (.int (0)), (.int (0)), (.int (0)), (.int (0)), (.int (0)), (.int (0)), (.int (0)), (.int (0)), (.int (0)), (.int (0)), (.int (0)), (.int (0)), (.int (0)), (.int (0)), (.int (0)), (.int (0)), (.int (0)), (.int (0)), (.int (0)), (.int (0)), (.int (0)), (.int (0)), (.int (0)), (.int (0)), (.int (0)), (.int (0)), (.int (0)), (.int (0)), (.int (0)), (.int (0)), (.int (0)), (.int (0)), (.int (0)), (.int (0)), (.int (0)), (.int (0)), (.int (0)), (.int (0)), (.int (0)), (.int (0)), (.int (0)), (.int (0)), (.int (0)), (.int (0)), (.int (0)), (.int (0)), (.int (0)), (.int (0)), (.int (0)), (.int (0)), (.int (0)), (.int (0)), (.int (0)), (.int (0)), (.int (0)), (.int (0)), (.int (0)), (.int (0)), (.int (0)), (.int (0)), (.int (0)), (.int (0)), (.int (0)), (.int (0)), (.int (0)), (.int (0)), (.int (0)), (.int (0)), (.int (0)), (.int (0)), (.int (0)), (.int (0)), (.int (0)), (.int (0)), (.int (0)), (.int (0)), (.int (0)), (.int (0)), (.int (0)), (.int (0)), (.int (0)), (.int (0)), (.int (0)), (.int (0)), (.int (0)), (.int (0)), (.int (0)), (.int (0)), (.int (0)), (.int (0)), (.int (0)), (.int (0)), (.int (0)), (.int (0)), (.int (0)), (.int (0)), (.int (0)), (.int (0)), (.int (0)), (.int (0)), (.int (0)), (.int (0)), (.int (0)), (.int (0)), (.int (0)), (.int (0)), (.int (0)), (.int (0)), (.int (0)), (.int (0)), (.int (0)), (.int (0)), (.int (0)), (.int (0)), (.int (0)), (.int (0)), (.int (0)), (.int (0)), (.int (0)), (.int (0)), (.int (0)), (.int (0)), (.int (0)), (.int (0)), (.int (0)), (.int (0)), (.int (0)), (.int (0)), (.int (0)), (.int (0)), (.int (0)), (.int (0)), (.int (0)), (.int (0)), (.int (0)), (.int (0)), (.int (0)), (.int (0)), (.int (0)), (.int (0)), (.int (0)), (.int (0)), (.int (0)), (.int (0)), (.int (0)), (.int (0)), (.int (0)), (.int (0)), (.int (0)), (.int (0)), (.int (0)), (.int (0)), (.int (0)), (.int (0)), (.int (0)), (.int (0)), (.int (0)), (.int (0)), (.int (0)), (.int (0)), (.int (0)), (.int (0)), (.int (0)), (.int (0)), (.int (0)), (.int (0)), (.int (0)), (.int (0)), (.int (0)), (.int (0)), (.int (0)), (.int (0)), (.int (0)), (.int (0)), (.int (0)), (.int (0)), (.int (0)), (.int (0)), (.int (0)), (.int (0)), (.int (0)), (.int (0)), (.int (0)), (.int (0)), (.int (0)), (.int (0)), (.int (0)), (.int (0)), (.int (0)), (.int (0)), (.int (0)), (.int (0)), (.int (0)), (.int (0)), (.int (0)), (.int (0)), (.int (0)), (.int (0)), (.int (0)), (.int (0)), (.int (0)), (.int (0)), (.int (0)), (.int (0)), (.int (0)), (.int (0)), (.int (0)), (.int (0)), (.int (0)), (.int (0)), (.int (0)), (.int (0)), (.int (0)), (.int (0)), (.int (0)), (.int (0)), (.int (0)), (.int (0)), (.int (0)), (.int (0)), (.int (0)), (.int (0)), (.int (0)), (.int (0)), (.int (0)), (.int (0)), (.int (0)), (.int (0)), (.int (0)), (.int (0)), (.int (0)), (.int (0)), (.int (0)), (.int (0)), (.int (0)), (.int (0)), (.int (0)), (.int (0)), (.int (0)), (.int (0)), (.int (0)), (.int (0)), (.int (0)), (.int (0)), (.int (0)), (.int (0)), (.int (0)), (.int (0)), (.int (0)), (.int (0)), (.int (0)), (.int (0)), (.int (0)), (.int (0)), (.int (0)), (.int (0)), (.int (0)), (.int (0)), (.int (0)), (.int (0)), (.int (0)), (.int (0)), (.int (0)), (.int (0)), (.int (0)), (.int (0)), (.int (0)), (.int (0)), (.int (0)), (.int (0))]), some (.bl true), some .non, some (.bl true)], 2, []⟩]
def L4c18 : List Ev.St := [⟨[some (.ref 1), none, none, none, none, none, none, none, none, none, none, none, none, none, some (.tup [(.int (0)), (.int (0)), (.int (0)), (.int (0)), (.int (0)), (.int (0)), (.int (0)), (.int (0)), (.int (0)), (.int (0)), (.int (0)), (.int (0)), (.int (0)), (.int (0)), (.int (0)), (.int (0)), (.int (0)), (.int (0)), (.int (0)), (.int (0)), (.int (0)), (.int (0)), (.int (0)), (.int (0)), (.int (0)), (.int (0)), (.int (0)), (.int (0)), (.int (0)), (.int (0)), (.int (0)), (.int (0)), (.int (0)), (.int (0)), (.int (0)), (.int (0)), (.int (0)), (.int (0)), (.int (0)), (.int (0)), (.int (0)), (.int (0)), (.int (0)), (.int (0)), (.int (0)), (.int (0)), (.int (0)), (.int (0)), (.int (0)), (.int (0)), (.int (0)), (.int (0)), (.int (0)), (.int (0)), (.int (0)), (.int (0)), (.int (0)), (.int (0)), (.int (0)), (.int (0)), (.int (0)), (.int (0)), (.int (0)), (.int (0)), (.int (0)), (.int (0)), (.int (0)), (.int (0)), (.int (0)), (.int (0)), (.int (0)), (.int (0)), (.int (0)), (.int (0)), (.int (0)), (.int (0)), (.int (0)), (.int (0)), (.int (0)), (.int (0)), (.int (0)), (.int (0)), (.int (0)), (.int (0)), (.int (0)), (.int (0)), (.int (0)), (.int (0)), (.int (0)), (.int (0)), (.int (0)), (.int (0)), (.int (0)), (.int (0)), (.int (0)), (.int (0)), (.int (0)), (.int (0)), (.int (0)), (.int (0)), (.int (0)), (.int (0)), (.int (0)), (.int (0)), (.int (0)), (.int (0)), (.int (0)), (.int (0)), (.int (0)), (.int (0)), (.int (0)), (.int (0)), (.int (0)), (.int (0)), (.int (0)), (.int (0)), (.int (0)), (.int (0)), (.int (0)), (.int (0)), (.int (0)), (.int (0)), (.int (0)), (.int (0)), (.int (0)), (.int (0)), (.int (0)), (.int (0)), (.int (0)), (.int (0)), (.int (0)), (.int (0)), (.int (0)), (.int (0)), (.int (0)), (.int (0)), (.int (0)), (.int (0)), (.int (0)), (.int (0)), (.int (0)), (.int (0)), (.int (0)), (.int (0)), (.int (0)), (.int (0)), (.int (0)), (.int (0)), (.int (0)), (.int (0)), (.int (0)), (.int (0)), (.int (0)), (.int (0)), (.int (0)), (.int (0)), (.int (0)), (.int (0)), (.int (0)), (.int (0)), (.int (0)), (.int (0)), (.int (0)), (.int (0)), (.int (0)), (.int (0)), (.int (0)), (.int (0)), (.int (0)), (.int (0)), (.int (0)), (.int (0)), (.int (0)), (.int (0)), (.int (0)), (.int (0)), (.int (0)), (.int (0)), (.int (0)), (.int (0)), (.int (0)), (.int (0)), (.int (0)), (.int (0)), (.int (0)), (.int (0)), (.int (0)), (.int (0)), (.int (0)), (.int (0)), (.int (0)), (.int (0)), (.int (0)), (.int (0)), (.int (0)), (.int (0)), (.int (0)), (.int (0)), (.int (0)), (.int (0)), (.int (0)), (.int (0)), (.int (0)), (.int (0)), (.int (0)), (.int (0)), (.int (0)), (.int (0)), (.int (0)), (.int (0)), (.int (0)), (.int (0)), (.int (0)), (.int (0)), (.int (0)), (.int (0)), (.int (0)), (.int (0)), (.int (0)), (.int (0)), (.int (0)), (.int (0)), (.int (0)), (.int (0)), (.int (0)), (.int (0)), (.int (0)), (.int (0)), (.int (0)), (.int (0)), (.int (0)), (.int (0)), (.int (0)), (.int (0)), (.int (0)), (.int (0)), (.int (0)), (.int (0)), (.int (0)), (.int (0)), (.int (0)), (.int (0)), (.int (0)), (.int (0)), (.int (0)), (.int (0)), (.int (0)), (.int (0)), (.int (0)), (.int (0)), (.int (0)), (.int (0)), (.int (0)), (.int (0)), (.int (0)), (.int (0)), (.int (0)), (.int (0)), (.int (0)), (.int (0)), (.int (0)), (.int (0)), (.int (0)), (.int (0)), (.int (0)), (.int (0)), (.int (0)), (.int (0)), (.int (0)), (.int (0)), (.int (0)), (.int (0)), (.int (0)), (.int (0)), (.int (0)), (.int (0)), (.int (0)), (.int (0)), (.int (0)), (.int (0)), (.int (0)), (.int (0)), (.int (0)), (.int (0)), (.int (0)), (.int (0)), (.int (0)), (.int (0)), (.int (0)), (.int (0)), (.int (0)), (.int (0)), (.int (0)), (.int (0)), (.int (0)), (.int (0)), (.int (0)), (.int (0)), (.int (0)), (.int (0)), (.int (0)), (.int (0)), (.int (0)), (.int (0)), (.int (0)), (.int (0)), (.int (0)), (.int (0)), (.int (0)), (.int (0)), (.int (0)), (.int (0)), (.int (0)), (.int (0)), (.int (0)), (.int (0)), (.int (0)), (.int (0)), (.int (0)), (.int (0)), (.int (0)), (.int (0)), (.int (0)), (.int (0)), (.int (0)), (.int (0)), (.int (0)), (.int (0)), (.int (0)), (.int (0)), (.int (0)), (.int (0)), (.int (0)), (.int (0)), (.int (0)), (.int (0)), (.int (0)), (.int (0)), (.int (0)), (.int (0)), (.int (0)), (.int (0)), (.int (0)), (.int (0)), (.int (0)), (.int (0)), (.int (0)), (.int (0)), (.int (0)), (.int (0)), (.int (0)), (.int (0)), (.int (0)), (.int (0)), (.int (0)), (.int (0)), (.int (0)), (.int (0)), (.int (0)), (.int (0)), (.int (0)), (.int (0)), (.int (0)), (.int (0)), (.int (0)), (.int (0)), (.int (0)), (.int (0)), (.int (0)), (.int (0)), (.int (0)), (.int (0)), (.int (0)), (.int (0)), (.int (0)), (.int (0)), (.int (0)), (.int (0)), (.int (0)), (.int (0)), (.int (0)), (.int (0)), (.int (0)), (.int (0)), (.int (0)), (.int (0)), (.int (0)), (.int (0)), (.int (0)), (.int (0)), (.int (0)), (.int (0)), (.int (0)), (.int (0)), (.int (0)), (.int (0)), (.int (0)), (.int (0)), (.int (0)), (.int (0)), (.int (0)), (.int (0)), (.int (0)), (.int (0)), (.int (0)), (.int (0)), (.int (0)), (.int (0)), (.int (0)), (.int (0)), (.int (0)), (.int (0)), (.int (0)), (.int (0)), (.int (0)), (.int (0)), (.int (0)), (.int (0)), (.int (0)), (.int (0)), (.int (0)), (.int (0)), (.int (0)), (.int (0)), (.int (0)), (.int (0)), (.int (0)), (.int (0)), (.int (0)), (.int (0)), (.int (0)), (.int (0)), (.int (0)), (.int (0)), (.int (0)), (.int (0)), (.int (0)), (.int (0)), (.int (0)), (.int (0)), (.int (0)), (.int (0)), (.int (0)), (.int (0)), (.int (0)), (.int (0)), (.int (0)), (.int (0)), (.int (0)), (.int (0)), (.int (0)), (.int (0)), (.int (0)), (.int (0)), (.int (0)), (.int (0)), (.int (0)), (.int (0)), (.int (0)), (.int (0)), (.int (0)), (.int (0)), (.int (0)), (.int (0)), (.int (0)), (.int (0)), (.int (0)), (.int (0)), (.int (0)), (.int (0)), (.int (0)), (.int (0)), (.int (0)), (.int (0)), (.int (0)), (.int (0)), (.int (0)), (.int (0)), (.int (0)), (.int (0)), (.int (0)), (.int (0)), (.int (0)), (.int (0)), (.int (0)), (.int (0)), (.int (0)), (.int (0)), (.int (0)), (.int (0)), (.int (0)), (.int (0)), (.int (0)), (.int (0)), (.int (0)), (.int (0)), (.int (0)), (.int (0)), (.int (0)), (.int (0)), (.int (0)), (.int (0)), (.int (0)), (.int (0)), (.int (0)), (.int (0)), (.int (0)), (.int (0)), (.int (0)), (.int (0)), (.int (0)), (.int (0)), (.int (0)), (.int (0)), (.int (0)), (.int (0)), (.int (0)), (.int (0)), (.int (0)), (.int (0)), (.int (0)), (.int (0)), (.int (0)), (.int (0)), (.int (0)), (.int (0)), (.int (0)), (.int (0)), (.int (0)), (.int (0)), (.int (0)), (.int (0)), (.int (0)), (.int (0)), (.int (0)), (.int (0)), (.int (0)), (.int (0)), (.int (0)), (.int (0)), (.int (0)), (.int (0)), (.int (0)), (.int (0)), (.int (0)), (.int (0)), (.int (0)), (.int (0)), (.int (0)), (.int (0)), (.int (0)), (.int (0)), (.int (0)), (.int (0)), (.int (0)), (.int (0)), (.int (0)), (.int (0)), (.int (0)), (.int (0)), (.int (0)), (.int (0)), (.int (0)), (.int (0)), (.int (0)), (.int (0)), (.int (0)), (.int (0)), (.int (0)), (.int (0)), (.int (0)), (.int (0)), (.int (0)), (.int (0)), (.int (0)), (.int (0)), (.int (0)), (.int (0)), (.int (0)), (.int (0)), (.int (0)), (.int (0)), (.int (0)), (.int (0)), (.int (0)), (.int (0)), (.int (0)), (.int (0)), (.int (0)), (.int (0)), (.int (0)), (.int (0)), (.int (0)), (.int (0)), (.int (0)), (.int (0)), (.int (0)), (.int (0)), (.int (0)), (.int (0)), (.int (0)), (.int (0)), (.int (0)), (.int (0)), (.int (0)), (.int (0)), (.int (0)), (.int (0)), (.int (0)), (.int (0)), (.int (0)), (.int (0)), (.int (0)), (.int (0)), (.int (0)), (.int (0)), (.int (0)), (.int (0)), (.int (0)), (.int (0)), (.int (0)), (.int (0)), (.int (0)), (.int (0)), (.int (0)), (.int (0)), (.int (0)), (.int (0)), (.int (0)), (.int (0)), (.int (0)), (.int (0)), (.int (0)), (.int (0)), (.int (0)), (.int (0)), (.int (0)), (.int (0)), (.int (0)), (.int (0)), (.int (0)), (.int (0)), (.int (0)), (.int (0)), (.int (0)), (.int (0)), (.int (0)), (.int (0)), (.int (0)), (.int (0)), (.int (0)), (.int (0)), (.int (0)), (.int (0)), (.int (0)), (.int (0)), (.int (0)), (.int (0)), (.int (0)), (.int (0)), (.int (0)), (.int (0)), (.int (0)), (.int (0)), (.int (0)), (.int (0)), (.int (0)), (.int (0)), (.int (0)), (.int (0)), (.int (0)), (.int (0)), (.int (0)), (.int (0)), (.int (0)), (.int (0)), (.int (0)), (.int (0)), (.int (0)), (.int (0)), (.int (0)), (.int (0)), (.int (0)), (.int (0)), (.int (0)), (.int (0)), (.int (0)), (.int (0)), (.int (0)), (.int (0)), (.int (0)), (.int (0)), (.int (0)), (.int (0)), (.int (0)), (.int (0)), (.int (0)), (.int (0)), (.int (0)), (.int (0)), (.int (0)), (.int (0)), (.int (0)), (.int (0)), (.int (0)), (.int (0)), (.int (0)), (.int (0)), (.int (0)), (.int (0)), (.int (0)), (.int (0)), (.int (0)), (.int (0)), (.int (0)), (.int (0)), (.int (0)), (.int (0)), (.int (0)), (.int (0)), (.int (0)), (.int (0)), (.int (0)), (.int (0)), (.int (0)), (.int (0)), (.int (0)), (.int (0)), (.int (0)), (.int (0)), (.int (0)), (.int (0)), (.int (0)), (.int (0)), (.int (0)), (.int (0)), (.int (0)), (.int (0)), (.int (0)), (.int (0)), (.int (0)), (.int (0)), (.int (0)), (.int (0)), (.int (0)), (.int (0)), (.int (0)), (.int (0)), (.int (0)), (.int (0)), (.int (0)), (.int (0)), (.int (0)), (.int (0)), (.int (0)), (.int (0)), (.int (0)), (.int (0)), (.int (0)), (.int (0)), (.int (0)), (.int (0)), (.int (0)), (.int (0)), (.int (0)), (.int (0)), (.int (0)), (.int (0)), (.int (0)), (.int (0)), (.int (0)), (.int (0)), (.int (0)), (.int (0)), (.int (0)), (.int (0)), (.int (0)), (.int (0)), (.int (0)), (.int (0)), (.int (0)), (.int (0)), (.int (0)), (.int (0)), (.int (0)), (.int (0)), (.int (0)), (.int (0)), (.int (0)), (.int (0)), (.int (0)), (.int (0)), (.int (0)), (.int (0)), (.int (0)), (.int (0)), (.int (0)), (.int (0)), (.int (0)), (.int (0)), (.int (0)), (.int (0)), (.int (0)), (.int (0)), (.int (0)), (.int (0)), (.int (0)), (.int (0)), (.int (0)), (.int (0)), (.int (0)), (.int (0)), (.int (0)), (.int (0)), (.int (0)), (.int (0)), (.int (0)), (.int (0)), (.int (0)), (.int (0)), (.int (0)), (.int (0)), (.int (0)), (.int (0)), (.int (0)), (.int (0)), (.int (0)), (.int (0)), (.int (0)), (.int (0)), (.int (0)), (.int (0)), (.int (0)), (.int (0)), (.int (0)), (.int (0)), (.int (0)), (.int (0)), (.int (0)), (.int (0)), (.int (0)), (.int (0)), (.int (0)), (.int (0)), (.int (0)), (.int (0)), (.int (0)), (.int (0)), (.int (0)), (.int (0)), (.int (0)), (.int (0)), (.int (0)), (.int (0)), (.int (0)), (.int (0)), (.int (0)), (.int (0)), (.int (0)), (.int (0)), (.int (0)), (.int (0)), (.int (0)), (.int (0)), (.int (0)), (.int (0)), (.int (0)), (.int (0)), (.int (0)), (.int (0)), (.int (0)), (.int (0)), (.int (0)), (.int (0)), (.int (0)), (.int (0)), (.int (0)), (.int (0)), (.int (0)), (.int (0)), (.int (0)), (.int (0)), (.int (0)), (.int (0)), (.int (0)), (.int (0)), (.int (0)), (.int (0)), (.int (0)), (.int (0)), (.int (0)), (.int (0)), (.int (0)), (.int (0)), (.int (0)), (.int (0)), (.int (0)), (.int (0)), (.int (0)), (.int (0)), (.int (0)), (.int (0)), (.int (0)), (.int (0)), (.int (0)), (.int (0)), (.int (0)), (.int (0)), (.int (0)), (.int (0)), (.int (0)), (.int (0)), (.int (0)), (.int (0)), (.int (0)), (.int (0)), (.int (0)), (.int (0)), (.int (0)), (.int (0)), (.int (0)), (.int (0)), (.int (0)), (.int (0)), (.int (0)), (.int (0)), (.int (0)), (.int (0)), (.int (0)), (.int (0)), (.int (0)), (.int (0)), (.int (0)), (.int (0)), (.int (0)), (.int (0)), (.int (0)), (.int (0)), (.int (0)), (.int (0)), (.int (0)), (.int (0)), (.int (0)), (.int (0)), (.int (0)), (.int (0)), (.int (0)), (.int (0)), (.int (0)), (.int (0)), (.int (0)), (.int (0)), (.int (0)), (.int (0)), (.int (0)), (.int (0)), (.int (0)), (.int (0)), (.int (0)), (.int (0)), (.int (0)), (.int (0)), (.int (0)), (.int (0)), (.int (0)), (.int (0)), (.int (0)), (.int (0)), (.int (0)), (.int (0)), (.int (0)), (.int (0)), (.int (0)), (.int (0)), (.int (0)), (.int (0)), (.int (0)), (.int (0)), (.int (0)), (.int (0)), (.int (0)), (.int (0)), (.int (0)), (.int (0)), (.int (0)), (.int (0)), (.int (0)), (.int (0)), (.int (0)), (.int (0)), (.int (0)), (.int (0)), (.int (0)), (.int (0)), (.int (0)), (.int (0)), (.int (0)), (.int (0)), (.int (0)), (.int (0)), (.int (0)), (.int (0))]), some (.bl true), some (.bl true), some (.bl true)], 2, []⟩,
  ⟨[some (.ref 1), none, none, none, none, none, none, none, none, none, none, none, none, none, some (.tup [(.int (0)), (.int (0)), (.int (0)), (.int (0)), (.int (0)), (.int (0)), (.int (0)), (.int (0)), (.int (0)), (.int (0)), (.int (0)), (.int (0)), (.int (0)), (.int (0)), (.int (0)), (.int (0)), (.int (0)), (.int (0)), (.int (0)), (.int (0)), (.int (0)), (.int (0)), (.int (0)), (.int (0)), (.int (0)), (.int (0)), (.int (0)), (.int (0)), (.int (0)), (.int (0)), (.int (0)), (.int (0)), (.int (0)), (.int (0)), (.int (0)), (.int (0)), (.int (0)), (.int (0)), (.int (0)), (.int (0)), (.int (0)), (.int (0)), (.int (0)), (.int (0)), (.int (0)), (.int (0)), (.int (0)), (.int (0)), (.int (0)), (.int (0)), (.int (0)), (.int (0)), (.int (0)), (.int (0)), (.int (0)), (.int (0)), (.int (0)), (.int (0)), (.int (0)), (.int (0)), (.int (0)), (.int (0)), (.int (0)), (.int (0)), (.int (0)), (.int (0)), (.int (0)), (.int (0)), (.int (0)), (.int (0)), (.int (0)), (.int (0)), (.int (0)), (.int (0)), (.int (0)), (.int (0)), (.int (0)), (.int (0)), (.int (0)), (.int (0)), (.int (0)), (.int (0)), (.int (0)), (.int (0)), (.int (0)), (.int (0)), (.int (0)), (.int (0)), (.int (0)), (.int (0)), (.int (0)), (.int (0)), (.int (0)), (.int (0)), (.int (0)), (.int (0)), (.int (0)), (.int (0)), (.int (0)), (.int (0)), (.int (0)), (.int (0)), (.int (0)), (.int (0)), (.int (0)), (.int (0)), (.int (0)), (.int (0)), (.int (0)), (.int (0)), (.int (0)), (.int (0)), (.int (0)), (.int (0)), (.int (0)), (.int (0)), (.int (0)), (.int (0)), (.int (0)), (.int (0)), (.int (0)), (.int (0)), (.int (0)), (.int (0)), (.int (0)), (.int (0)), (.int (0)), (.int (0)), (.int (0)), (.int (0)), (.int (0)), (.int (0)), (.int (0)), (.int (0)), (.int (0)), (.int (0)), (.int (0)), (.int (0)), (.int (0)), (.int (0)), (.int (0)), (.int (0)), (.int (0)), (.int (0)), (.int (0)), (.int (0)), (.int (0)), (.int (0)), (.int (0)), (.int (0)), (.int (0)), (.int (0)), (.int (0)), (.int (0)), (.int (0)), (.int (0)), (.int (0)), (.int (0)), (.int (0)), (.int (0)), (.int (0)), (.int (0)), (.int (0)), (.int (0)), (.int (0)), (.int (0)), (.int (0)), (.int (0)), (.int (0)), (.int (0)), (.int (0)), (.int (0)), (.int (0)), (.int (0)), (.int (0)), (.int (0)), (.int (0)), (.int (0)), (.int (0)), (.int (0)), (.int (0)), (.int (0)), (.int (0)), (.int (0)), (.int (0)), (.int (0)), (.int (0)), (.int (0)), (.int (0)), (.int (0)), (.int (0)), (.int (0)), (.int (0)), (.int (0)), (.int (0)), (.int (0)), (.int (0)), (.int (0)), (.int (0)), (.int (0)), (.int (0)), (.int (0)), (.int (0)), (.int (0)), (.int (0)), (.int (0)), (.int (0)), (.int (0)), (.int (0)), (.int (0)), (.int (0)), (.int (0)), (.int (0)), (.int (0)), (.int (0)), (.int (0)), (.int (0)), (.int (0)), (.int (0)), (.int (0)), (.int (0)), (.int (0)), (.int (0)), (.int (0)), (.int (0)), (.int (0)), (.int (0)), (.int (0)), (.int (0)), (.int (0)), (.int (0)), (.int (0)), (.int (0)), (.int (0)), (.int (0)), (.int (0)), (.int (0)), (.int (0)), (.int (0)), (.int (0)), (.int (0)), (.int (0)), (.int (0)), (.int (0)), (.int (0)), (.int (0)), (.int (0)), (.int (0)), (.int (0)), (.int (0)), (.int (0)), (.int (0)), (.int (0)), (.int (0)), (.int (0)), (.int (0)), (.int (0)), (.int (0)), (.int (0)), (.int (0)), (.int (0)), (.int (0)), (.int (0)), (.int (0)), (.int (0)), (.int (0)), (.int (0)), (.int (0)), (.int (0)), (.int (0)), (.int (0)), (.int (0)), (.int (0)), (.int (0)), (.int (0)), (.int (0)), (.int (0)), (.int (0)), (.int (0)), (.int (0)), (.int (0)), (.int (0)), (.int (0)), (.int (0)), (.int (0)), (.int (0)), (.int (0)), (.int (0)), (.int (0)), (.int (0)), (.int (0)), (.int (0)), (.int (0)), (.int (0)), (.int (0)), (.int (0)), (.int (0)), (.int (0)), (.int (0)), (.int (0)), (.int (0)), (.int (0)), (.int (0)), (.int (0)), (.int (0)), (.int (0)), (.int (0)), (.int (0)), (.int (0)), (.int (0)), (.int (0)), (.int (0)), (.int (0)), (.int (0)), (.int (0)), (.int (0)), (.int (0)), (.int (0)), (.int (0)), (.int (0)), (.int (0)), (.int (0)), (.int (0)), (.int (0)), (.int (0)), (.int (0)), (.int (0)), (.int (0)), (.int (0)), (.int (0)), (.int (0)), (.int (0)), (.int (0)), (.int (0)), (.int (0)), (.int (0)), (.int (0)), (.int (0)), (.int (0)), (.int (0)), (.int (0)), (.int (0)), (.int (0)), (.int (0)), (.int (0)), (.int (0)), (.int (0)), (.int (0)), (.int (0)), (.int (0)), (.int (0)), (.int (0)), (.int (0)), (.int (0)), (.int (0)), (.int (0)), (.int (0)), (.int (0)), (.int (0)), (.int (0)), (.int (0)), (.int (0)), (.int (0)), (.int (0)), (.int (0)), (.int (0)), (.int (0)), (.int (0)), (.int (0)), (.int (0)), (.int (0)), (.int (0)), (.int (0)), (.int (0)), (.int (0)), (.int (0)), (.int (0)), (.int (0)), (.int (0)), (.int (0)), (.int (0)), (.int (0)), (.int (0)), (.int (0)), (.int (0)), (.int (0)), (.int (0)), (.int (0)), (.int (0)), (.int (0)), (.int (0)), (.int (0)), (.int (0)), (.int (0)), (.int (0)), (.int (0)), (.int (0)), (.int (0)), (.int (0)), (.int (0)), (.int (0)), (.int (0)), (.int (0)), (.int (0)), (.int (0)), (.int (0)), (.int (0)), (.int (0)), (.int (0)), (.int (0)), (.int (0)), (.int (0)), (.int (0)), (.int (0)), (.int (0)), (.int (0)), (.int (0)), (.int (0)), (.int (0)), (.int (0)), (.int (0)), (.int (0)), (.int (0)), (.int (0)), (.int (0)), (.int (0)), (.int (0)), (.int (0)), (.int (0)), (.int (0)), (.int (0)), (.int (0)), (.int (0)), (.int (0)), (.int (0)), (.int (0)), (.int (0)), (.int (0)), (.int (0)), (.int (0)), (.int (0)), (.int (0)), (.int (0)), (.int (0)), (.int (0)), (.int (0)), (.int (0)), (.int (0)), (.int (0)), (.int (0)), (.int (0)), (.int (0)), (.int (0)), (.int (0)), (.int (0)), (.int (0)), (.int (0)), (.int (0)), (.int (0)), (.int (0)), (.int (0)), (.int (0)), (.int (0)), (.int (0)), (.int (0)), (.int (0)), (.int (0)), (.int (0)), (.int (0)), (.int (0)), (.int (0)), (.int (0)), (.int (0)), (.int (0)), (.int (0)), (.int (0)), (.int (0)), (.int (0)), (.int (0)), (.int (0)), (.int (0)), (.int (0)), (.int (0)), (.int (0)), (.int (0)), (.int (0)), (.int (0)), (.int (0)), (.int (0)), (.int (0)), (.int (0)), (.int (0)), (.int (0)), (.int (0)), (.int (0)), (.int (0)), (.int (0)), (.int (0)), (.int (0)), (.int (0)), (.int (0)), (.int (0)), (.int (0)), (.int (0)), (.int (0)), (.int (0)), (.int (0)), (.int (0)), (.int (0)), (.int (0)), (.int (0)), (.int (0)), (.int (0)), (.int (0)), (.int (0)), (.int (0)), (.int (0)), (.int (0)), (.int (0)), (.int (0)), (.int (0)), (.int (0)), (.int (0)), (.int (0)), (.int (0)), (.int (0)), (.int (0)), (.int (0)), (.int (0)), (.int (0)), (.int (0)), (.int (0)), (.int (0)), (.int (0)), (.int (0)), (.int (0)), (.int (0)), (.int (0)), (.int (0)), (.int (0)), (.int (0)), (.int (0)), (.int (0)), (.int (0)), (.int (0)), (.int (0)), (.int (0)), (.int (0)), (.int (0)), (.int (0)), (.int (0)), (.int (0)), (.int (0)), (.int (0)), (.int (0)), (.int (0)), (.int (0)), (.int (0)), (.int (0)), (.int (0)), (.int (0)), (.int (0)), (.int (0)), (.int (0)), (.int (0)), (.int (0)), (.int (0)), (.int (0)), (.int (0)), (.int (0)), (.int (0)), (.int (0)), (.int (0)), (.int (0)), (.int (0)), (.int (0)), (.int (0)), (.int (0)), (.int (0)), (.int (0)), (.int (0)), (.int (0)), (.int (0)), (.int (0)), (.int (0)), (.int (0)), (.int (0)), (.int (0)), (.int (0)), (.int (0)), (.int (0)), (.int (0)), (.int (0)), (.int (0)), (.int (0)), (.int (0)), (.int (0)), (.int (0)), (.int (0)), (.int (0)), (.int (0)), (.int (0)), (.int (0)), (.int (0)), (.int (0)), (.int (0)), (.int (0)), (.int (0)), (.int (0)), (.int (0)), (.int (0)), (.int (0)), (.int (0)), (.int (0)), (.int (0)), (.int (0)), (.int (0)), (.int (0)), (.int (0)), (.int (0)), (.int (0)), (.int (0)), (.int (0)), (.int (0)), (.int (0)), (.int (0)), (.int (0)), (.int (0)), (.int (0)), (.int (0)), (.int (0)), (.int (0)), (.int (0)), (.int (0)), (.int (0)), (.int (0)), (.int (0)), (.int (0)), (.int (0)), (.int (0)), (.int (0)), (.int (0)), (.int (0)), (.int (0)), (.int (0)), (.int (0)), (.int (0)), (.int (0)), (.int (0)), (.int (0)), (.int (0)), (.int (0)), (.int (0)), (.int (0)), (.int (0)), (.int (0)), (.int (0)), (.int (0)), (.int (0)), (.int (0)), (.int (0)), (.int (0)), (.int (0)), (.int (0)), (.int (0)), (.int (0)), (.int (0)), (.int (0)), (.int (0)), (.int (0)), (.int (0)), (.int (0)), (.int (0)), (.int (0)), (.int (0)), (.int (0)), (.int (0)), (.int (0)), (.int (0)), (.int (0)), (.int (0)), (.int (0)), (.int (0)), (.int (0)), (.int (0)), (.int (0)), (.int (0)), (.int (0)), (.int (0)), (.int (0)), (.int (0)), (.int (0)), (.int (0)), (.int (0)), (.int (0)), (.int (0)), (.int (0)), (.int (0)), (.int (0)), (.int (0)), (.int (0)), (.int (0)), (.int (0)), (.int (0)), (.int (0)), (.int (0)), (.int (0)), (.int (0)), (.int (0)), (.int (0)), (.int (0)), (.int (0)), (.int (0)), (.int (0)), (.int (0)), (.int (0)), (.int (0)), (.int (0)), (.int (0)), (.int (0)), (.int (0)), (.int (0)), (.int (0)), (.int (0)), (.int (0)), (.int (0)), (.int (0)), (.int (0)), (.int (0)), (.int (0)), (.int (0)), (.int (0)), (.int (0)), (.int (0)), (.int (0)), (.int (0)), (.int (0)), (.int (0)), (.int (0)), (.int (0)), (.int (0)), (.int (0)), (.int (0)), (.int (0)), (.int (0)), (.int (0)), (.int (0)), (.int (0)), (.int (0)), (.int (0)), (.int (0)), (.int (0)), (.int (0)), (.int (0)), (.int (0)), (.int (0)), (.int (0)), (.int (0)), (.int (0)), (.int (0)), (.int (0)), (.int (0)), (.int (0)), (.int (0)), (.int (0)), (.int (0)), (.int (0)), (.int (0)), (.int (0)), (.int (0)), (.int (0)), (.int (0)), (.int (0)), (.int (0)), (.int (0)), (.int (0)), (.int (0)), (.int (0)), (.int (0)), (.int (0)), (.int (0)), (.int (0)), (.int (0)), (.int (0)), (.int (0)), (.int (0)), (.int (0)), (.int (0)), (.int (0)), (.int (0)), (.int (0)), (.int (0)), (.int (0)), (.int (0)), (.int (0)), (.int (0)), (.int (0)), (.int (0)), (.int (0)), (.int (0)), (.int (0)), (.int (0)), (.int (0)), (.int (0)), (.int (0)), (.int (0)), (.int (0)), (.int (0)), (.int (0)), (.int (0)), (.int (0)), (.int (0)), (.int (0)), (.int (0)), (.int (0)), (.int (0)), (.int (0)), (.int (0)), (.int (0)), (.int (0)), (.int (0)), (.int (0)), (.int (0)), (.int (0)), (.int (0)), (.int (0)), (.int (0)), (.int (0)), (.int (0)), (.int (0)), (.int (0)), (.int (0)), (.int (0)), (.int (0)), (.int (0)), (.int (0)), (.int (0)), (.int (0)), (.int (0)), (.int (0)), (.int (0)), (.int (0)), (.int (0)), (.int (0)), (.int (0)), (.int (0)), (.int (0)), (.int (0)), (.int (0)), (.int (0)), (.int (0)), (.int (0)), (.int (0)), (.int (0)), (.int (0)), (.int (0)), (.int (0)), (.int (0)), (.int (0)), (.int (0)), (.int (0)), (.int (0)), (.int (0)), (.int (0)), (.int (0)), (.int (0)), (.int (0)), (.int (0)), (.int (0)), (.int (0)), (.int (0)), (.int (0)), (.int (0)), (.int (0)), (.int (0)), (.int (0)), (.int (0)), (.int (0)), (.int (0)), (.int (0)), (.int (0)), (.int (0)), (.int (0)), (.int (0)), (.int (0)), (.int (0)), (.int (0)), (.int (0)), (.int (0)), (.int (0)), (.int (0)), (.int (0)), (.int (0)), (.int (0)), (.int (0)), (.int (0)), (.int (0)), (.int (0)), (.int (0)), (.int (0)), (.int (0)), (.int (0)), (.int (0)), (.int (0)), (.int (0)), (.int (0)), (.int (0)), (.int (0)), (.int (0)), (.int (0)), (.int (0)), (.int (0)), (.int (0)), (.int (0)), (.int (0)), (.int (0)), (.int (0)), (.int (0)), (.int (0)), (.int (0)), (.int (0)), (.int (0)), (.int (0)), (.int (0)), (.int (0)), (.int (0)), (.int (0)), (.int (0)), (.int (0)), (.int (0)), (.int (0)), (.int (0)), (.int (0)), (.int (0)), (.int (0)), (.int (0)), (.int (0)), (.int (0)), (.int (0)), (.int (0)), (.int (0)), (.int (0)), (.int (0)), (.int (0)), (.int (0)), (.int (0)), (.int (0)), (.int (0)), (.int (0)), (.int (0)), (.int (0)), (.int (0)), (.int (0)), (.int (0)), (.int (0)), (.int (0)), (.int (0)), (.int (0)), (.int (0)), (.int (0)), (.int (0)), (.int (0)), (.int (0)), (.int (0)), (.int (0)), (.int (0)), (.int (0)), (.int (0)), (.int (0)), (.int (0)), (.int (0)), (.int (0)), (.int (0)), (.int (0)), (.int (0)), (.int (0)), (.int (0)), (.int (0)), (.int (0)), (.int (0)), (.int (0)), (.int (0)), (.int (0)), (.int (0)), (.int (0)), (.int (0)), (.int (0)), (.int (0)), (.int (0)), (.int (0)), (.int (0)), (.int (0)), (.int (0)), (.int (0)), (.int (0)), (.int (0)), (.int (0)), (.int (0)), (.int (0)), (.int (0)), (.int (0)), (.int (0))]), some (.bl true), some (.str "1"), some (.bl true)], 2, []⟩]
def L4 : List Ev.St := L4c0 ++ (L4c1 ++ (L4c2 ++ (L4c3 ++ (L4c4 ++ (L4c5 ++ (L4c6 ++ (L4c7 ++ (L4c8 ++ (L4c9 ++ (L4c10 ++ (L4c11 ++ (L4c12 ++ (L4c13 ++ (L4c14 ++ (L4c15 ++ (L4c16 ++ (L4c17 ++ (L4c18))))))))))))))))))
def L5 : List Ev.St := []
def d0 : List (List Nat) := [[], [], [1]]
def d1 : List (List Nat) := [[], [3, 5], [4], [2, 8]]
def d2 : List (List Nat) := [[], [], [7, 10, 12], [6, 9, 11, 13]]
def d3 : List (List Nat) := [[], []]
def d4 : List (List Nat) := [[14, 15, 16, 17]]
theorem sg0a (ns : List Int) (dv : Dv) : L0.map (fun t => explore V16 2 46 47 48 d0 (bR) t.ρ (t.mem ns (dv 0)) dv 0) = L0.map fun t => (lv V16 46 47 48 d0 (bR) t).map (Lz.up ns dv) := by kernel_rfl
theorem sg0b : (L0.all fun t => (lv V16 46 47 48 d0 (bR) t).all (leafOk L1)) = true := by kernel_rfl
theorem sg1ac0 (ns : List Int) (dv : Dv) : L1c0.map (fun t => explore V16 2 46 47 48 d1 (restS 3 bR) t.ρ (t.mem ns (dv 0)) dv 0) = L1c0.map fun t => (lv V16 46 47 48 d1 (restS 3 bR) t).map (Lz.up ns dv) := by kernel_rfl
theorem sg1bc0 : (L1c0.all fun t => (lv V16 46 47 48 d1 (restS 3 bR) t).all (leafOk L2)) = true := by kernel_rfl
theorem sg1ac1 (ns : List Int) (dv : Dv) : L1c1.map (fun t => explore V16 2 46 47 48 d1 (restS 3 bR) t.ρ (t.mem ns (dv 0)) dv 0) = L1c1.map fun t => (lv V16 46 47 48 d1 (restS 3 bR) t).map (Lz.up ns dv) := by kernel_rfl
theorem sg1bc1 : (L1c1.all fun t => (lv V16 46 47 48 d1 (restS 3 bR) t).all (leafOk L2)) = true := by kernel_rfl
theorem sg1ac2 (ns : List Int) (dv : Dv) : L1c2.map (fun t => explore V16 2 46 47 48 d1 (restS 3 bR) t.ρ (t.mem ns (dv 0)) dv 0) = L1c2.map fun t => (lv V16 46 47 48 d1 (restS 3 bR) t).map (Lz.up ns dv) := by kernel_rfl
theorem sg1bc2 : (L1c2.all fun t => (lv V16 46 47 48 d1 (restS 3 bR) t).all (leafOk L2)) = true := by kernel_rfl
theorem sg1ac3 (ns : List Int) (dv : Dv) : L1c3.map (fun t => explore V16 2 46 47 48 d1 (restS 3 bR) t.ρ (t.mem ns (dv 0)) dv 0) = L1c3.map fun t => (lv V16 46 47 48 d1 (restS 3 bR) t).map (Lz.up ns dv) := by kernel_rfl
theorem sg1bc3 : (L1c3.all fun t => (lv V16 46 47 48 d1 (restS 3 bR) t).all (leafOk L2)) = true := by kernel_rfl
theorem sg1ac4 (ns : List Int) (dv : Dv) : L1c4.map (fun t => explore V16 2 46 47 48 d1 (restS 3 bR) t.ρ (t.mem ns (dv 0)) dv 0) = L1c4.map fun t => (lv V16 46 47 48 d1 (restS 3 bR) t).map (Lz.up ns dv) := by kernel_rfl
theorem sg1bc4 : (L1c4.all fun t => (lv V16 46 47 48 d1 (restS 3 bR) t).all (leafOk L2)) = true := by kernel_rfl
theorem sg1ac5 (ns : List Int) (dv : Dv) : L1c5.map (fun t => explore V16 2 46 47 48 d1 (restS 3 bR) t.ρ (t.mem ns (dv 0)) dv 0) = L1c5.map fun t => (lv V16 46 47 48 d1 (restS 3 bR) t).map (Lz.up ns dv) := by kernel_rfl
theorem sg1bc5 : (L1c5.all fun t => (lv V16 46 47 48 d1 (restS 3 bR) t).all (leafOk L2)) = true := by kernel_rfl
theorem sg1ac6 (ns : List Int) (dv : Dv) : L1c6.map (fun t => explore V16 2 46 47 48 d1 (restS 3 bR) t.ρ (t.mem ns (dv 0)) dv 0) = L1c6.map fun t => (lv V16 46 47 48 d1 (restS 3 bR) t).map (Lz.up ns dv) := by kernel_rfl
theorem sg1bc6 : (L1c6.all fun t => (lv V16 46 47 48 d1 (restS 3 bR) t).all (leafOk L2)) = true := by kernel_rfl
theorem sg1ac7 (ns : List Int) (dv : Dv) : L1c7.map (fun t => explore V16 2 46 47 48 d1 (restS 3 bR) t.ρ (t.mem ns (dv 0)) dv 0) = L1c7.map fun t => (lv V16 46 47 48 d1 (restS 3 bR) t).map (Lz.up ns dv) := by kernel_rfl
theorem sg1bc7 : (L1c7.all fun t => (lv V16 46 47 48 d1 (restS 3 bR) t).all (leafOk L2)) = true := by kernel_rfl
theorem sg1ac8 (ns : List Int) (dv : Dv) : L1c8.map (fun t => explore V16 2 46 47 48 d1 (restS 3 bR) t.ρ (t.mem ns (dv 0)) dv 0) = L1c8.map fun t => (lv V16 46 47 48 d1 (restS 3 bR) t).map (Lz.up ns dv) := by kernel_rfl
theorem sg1bc8 : (L1c8.all fun t => (lv V16 46 47 48 d1 (restS 3 bR) t).all (leafOk L2)) = true := by kernel_rfl
theorem sg1ac9 (ns : List Int) (dv : Dv) : L1c9.map (fun t => explore V16 2 46 47 48 d1 (restS 3 bR) t.ρ (t.mem ns (dv 0)) dv 0) = L1c9.map fun t => (lv V16 46 47 48 d1 (restS 3 bR) t).map (Lz.up ns dv) := by kernel_rfl
theorem sg1bc9 : (L1c9.all fun t => (lv V16 46 47 48 d1 (restS 3 bR) t).all (leafOk L2)) = true := by kernel_rfl
theorem sg1ac10 (ns : List Int) (dv : Dv) : L1c10.map (fun t => explore V16 2 46 47 48 d1 (restS 3 bR) t.ρ (t.mem ns (dv 0)) dv 0) = L1c10.map fun t => (lv V16 46 47 48 d1 (restS 3 bR) t).map (Lz.up ns dv) := by kernel_rfl
theorem sg1bc10 : (L1c10.all fun t => (lv V16 46 47 48 d1 (restS 3 bR) t).all (leafOk L2)) = true := by kernel_rfl
theorem sg1ac11 (ns : List Int) (dv : Dv) : L1c11.map (fun t => explore V16 2 46 47 48 d1 (restS 3 bR) t.ρ (t.mem ns (dv 0)) dv 0) = L1c11.map fun t => (lv V16 46 47 48 d1 (restS 3 bR) t).map (Lz.up ns dv) := by kernel_rfl
theorem sg1bc11 : (L1c11.all fun t => (lv V16 46 47 48 d1 (restS 3 bR) t).all (leafOk L2)) = true := by kernel_rfl
theorem sg1ac12 (ns : List Int) (dv : Dv) : L1c12.map (fun t => explore V16 2 46 47 48 d1 (restS 3 bR) t.ρ (t.mem ns (dv 0)) dv 0) = L1c12.map fun t => (lv V16 46 47 48 d1 (restS 3 bR) t).map (Lz.up ns dv) := by kernel_rfl
theorem sg1bc12 : (L1c12.all fun t => (lv V16 46 47 48 d1 (restS 3 bR) t).all (leafOk L2)) = true := by kernel_rfl
theorem sg1ac13 (ns : List Int) (dv : Dv) : L1c13.map (fun t => explore V16 2 46 47 48 d1 (restS 3 bR) t.ρ (t.mem ns (dv 0)) dv 0) = L1c13.map fun t => (lv V16 46 47 48 d1 (restS 3 bR) t).map (Lz.up ns dv) := by kernel_rfl
theorem sg1bc13 : (L1c13.all fun t => (lv V16 46 47 48 d1 (restS 3 bR) t).all (leafOk L2)) = true := by kernel_rfl
theorem sg1ac14 (ns : List Int) (dv : Dv) : L1c14.map (fun t => explore V16 2 46 47 48 d1 (restS 3 bR) t.ρ (t.mem ns (dv 0)) dv 0) = L1c14.map fun t => (lv V16 46 47 48 d1 (restS 3 bR) t).map (Lz.up ns dv) := by kernel_rfl
theorem sg1bc14 : (L1c14.all fun t => (lv V16 46 47 48 d1 (restS 3 bR) t).all (leafOk L2)) = true := by kernel_rfl
theorem sg1ac15 (ns : List Int) (dv : Dv) : L1c15.map (fun t => explore V16 2 46 47 48 d1 (restS 3 bR) t.ρ (t.mem ns (dv 0)) dv 0) = L1c15.map fun t => (lv V16 46 47 48 d1 (restS 3 bR) t).map (Lz.up ns dv) := by kernel_rfl
theorem sg1bc15 : (L1c15.all fun t => (lv V16 46 47 48 d1 (restS 3 bR) t).all (leafOk L2)) = true := by kernel_rfl
theorem sg1ac16 (ns : List Int) (dv : Dv) : L1c16.map (fun t => explore V16 2 46 47 48 d1 (restS 3 bR) t.ρ (t.mem ns (dv 0)) dv 0) = L1c16.map fun t => (lv V16 46 47 48 d1 (restS 3 bR) t).map (Lz.up ns dv) := by kernel_rfl
theorem sg1bc16 : (L1c16.all fun t => (lv V16 46 47 48 d1 (restS 3 bR) t).all (leafOk L2)) = true := by kernel_rfl
theorem sg2ac0 (ns : List Int) (dv : Dv) : L2c0.map (fun t => explore V16 2 46 47 48 d2 (restS 7 bR) t.ρ (t.mem ns (dv 0)) dv 0) = L2c0.map fun t => (lv V16 46 47 48 d2 (restS 7 bR) t).map (Lz.up ns dv) := by kernel_rfl
theorem sg2bc0 : (L2c0.all fun t => (lv V16 46 47 48 d2 (restS 7 bR) t).all (leafOk L3)) = true := by kernel_rfl
theorem sg2ac1 (ns : List Int) (dv : Dv) : L2c1.map (fun t => explore V16 2 46 47 48 d2 (restS 7 bR) t.ρ (t.mem ns (dv 0)) dv 0) = L2c1.map fun t => (lv V16 46 47 48 d2 (restS 7 bR) t).map (Lz.up ns dv) := by kernel_rfl
theorem sg2bc1 : (L2c1.all fun t => (lv V16 46 47 48 d2 (restS 7 bR) t).all (leafOk L3)) = true := by kernel_rfl
theorem sg2ac2 (ns : List Int) (dv : Dv) : L2c2.map (fun t => explore V16 2 46 47 48 d2 (restS 7 bR) t.ρ (t.mem ns (dv 0)) dv 0) = L2c2.map fun t => (lv V16 46 47 48 d2 (restS 7 bR) t).map (Lz.up ns dv) := by kernel_rfl
theorem sg2bc2 : (L2c2.all fun t => (lv V16 46 47 48 d2 (restS 7 bR) t).all (leafOk L3)) = true := by kernel_rfl
theorem sg3a (ns : List Int) (dv : Dv) : L3.map (fun t => explore V16 2 46 47 48 d3 (restS 11 bR) t.ρ (t.mem ns (dv 0)) dv 0) = L3.map fun t => (lv V16 46 47 48 d3 (restS 11 bR) t).map (Lz.up ns dv) := by kernel_rfl
theorem sg3b : (L3.all fun t => (lv V16 46 47 48 d3 (restS 11 bR) t).all (leafOk L4)) = true := by kernel_rfl
theorem sg4ac0 (ns : List Int) (dv : Dv) : L4c0.map (fun t => explore V16 2 46 47 48 d4 (restS 13 bR) t.ρ (t.mem ns (dv 0)) dv 0) = L4c0.map fun t => (lv V16 46 47 48 d4 (restS 13 bR) t).map (Lz.up ns dv) := by kernel_rfl
theorem sg4bc0 : (L4c0.all fun t => (lv V16 46 47 48 d4 (restS 13 bR) t).all (leafOk L5)) = true := by kernel_rfl
theorem sg4ac1 (ns : List Int) (dv : Dv) : L4c1.map (fun t => explore V16 2 46 47 48 d4 (restS 13 bR) t.ρ (t.mem ns (dv 0)) dv 0) = L4c1.map fun t => (lv V16 46 47 48 d4 (restS 13 bR) t).map (Lz.up ns dv) := by kernel_rfl
theorem sg4bc1 : (L4c1.all fun t => (lv V16 46 47 48 d4 (restS 13 bR) t).all (leafOk L5)) = true := by kernel_rfl
theorem sg4ac2 (ns : List Int) (dv : Dv) : L4c2.map (fun t => explore V16 2 46 47 48 d4 (restS 13 bR) t.ρ (t.mem ns (dv 0)) dv 0) = L4c2.map fun t => (lv V16 46 47 48 d4 (restS 13 bR) t).map (Lz.up ns dv) := by kernel_rfl
theorem sg4bc2 : (L4c2.all fun t => (lv V16 46 47 48 d4 (restS 13 bR) t).all (leafOk L5)) = true := by kernel_rfl
theorem sg4ac3 (ns : List Int) (dv : Dv) : L4c3.map (fun t => explore V16 2 46 47 48 d4 (restS 13 bR) t.ρ (t.mem ns (dv 0)) dv 0) = L4c3.map fun t => (lv V16 46 47 48 d4 (restS 13 bR) t).map (Lz.up ns dv) := by kernel_rfl
theorem sg4bc3 : (L4c3.all fun t => (lv V16 46 47 48 d4 (restS 13 bR) t).all (leafOk L5)) = true := by kernel_rfl
theorem sg4ac4 (ns : List Int) (dv : Dv) : L4c4.map (fun t => explore V16 2 46 47 48 d4 (restS 13 bR) t.ρ (t.mem ns (dv 0)) dv 0) = L4c4.map fun t => (lv V16 46 47 48 d4 (restS 13 bR) t).map (Lz.up ns dv) := by kernel_rfl
theorem sg4bc4 : (L4c4.all fun t => (lv V16 46 47 48 d4 (restS 13 bR) t).all (leafOk L5)) = true := by kernel_rfl
theorem sg4ac5 (ns : List Int) (dv : Dv) : L4c5.map (fun t => explore V16 2 46 47 48 d4 (restS 13 bR) t.ρ (t.mem ns (dv 0)) dv 0) = L4c5.map fun t => (lv V16 46 47 48 d4 (restS 13 bR) t).map (Lz.up ns dv) := by kernel_rfl
theorem sg4bc5 : (L4c5.all fun t => (lv V16 46 47 48 d4 (restS 13 bR) t).all (leafOk L5)) = true := by kernel_rfl
theorem sg4ac6 (ns : List Int) (dv : Dv) : L4c6.map (fun t => explore V16 2 46 47 48 d4 (restS 13 bR) t.ρ (t.mem ns (dv 0)) dv 0) = L4c6.map fun t => (lv V16 46 47 48 d4 (restS 13 bR) t).map (Lz.up ns dv) := by kernel_rfl
theorem sg4bc6 : (L4c6.all fun t => (lv V16 46 47 48 d4 (restS 13 bR) t).all (leafOk L5)) = true := by kernel_rfl
theorem sg4ac7 (ns : List Int) (dv : Dv) : L4c7.map (fun t => explore V16 2 46 47 48 d4 (restS 13 bR) t.ρ (t.mem ns (dv 0)) dv 0) = L4c7.map fun t => (lv V16 46 47 48 d4 (restS 13 bR) t).map (Lz.up ns dv) := by kernel_rfl
theorem sg4bc7 : (L4c7.all fun t => (lv V16 46 47 48 d4 (restS 13 bR) t).all (leafOk L5)) = true := by kernel_rfl
theorem sg4ac8 (ns : List Int) (dv : Dv) : L4c8.map (fun t => explore V16 2 46 47 48 d4 (restS 13 bR) t.ρ (t.mem ns (dv 0)) dv 0) = L4c8.map fun t => (lv V16 46 47 48 d4 (restS 13 bR) t).map (Lz.up ns dv) := by kernel_rfl
theorem sg4bc8 : (L4c8.all fun t => (lv V16 46 47 48 d4 (restS 13 bR) t).all (leafOk L5)) = true := by kernel_rfl
theorem sg4ac9 (ns : List Int) (dv : Dv) : L4c9.map (fun t => explore V16 2 46 47 48 d4 (restS 13 bR) t.ρ (t.mem ns (dv 0)) dv 0) = L4c9.map fun t => (lv V16 46 47 48 d4 (restS 13 bR) t).map (Lz.up ns dv) := by kernel_rfl
theorem sg4bc9 : (L4c9.all fun t => (lv V16 46 47 48 d4 (restS 13 bR) t).all (leafOk L5)) = true := by kernel_rfl
theorem sg4ac10 (ns : List Int) (dv : Dv) : L4c10.map (fun t => explore V16 2 46 47 48 d4 (restS 13 bR) t.ρ (t.mem ns (dv 0)) dv 0) = L4c10.map fun t => (lv V16 46 47 48 d4 (restS 13 bR) t).map (Lz.up ns dv) := by kernel_rfl
theorem sg4bc10 : (L4c10.all fun t => (lv V16 46 47 48 d4 (restS 13 bR) t).all (leafOk L5)) = true := by kernel_rfl
theorem sg4ac11 (ns : List Int) (dv : Dv) : L4c11.map (fun t => explore V16 2 46 47 48 d4 (restS 13 bR) t.ρ (t.mem ns (dv 0)) dv 0) = L4c11.map fun t => (lv V16 46 47 48 d4 (restS 13 bR) t).map (Lz.up ns dv) := by kernel_rfl
theorem sg4bc11 : (L4c11.all fun t => (lv V16 46 47 48 d4 (restS 13 bR) t).all (leafOk L5)) = true := by kernel_rfl
theorem sg4ac12 (ns : List Int) (dv : Dv) : L4c12.map (fun t => explore V16 2 46 47 48 d4 (restS 13 bR) t.ρ (t.mem ns (dv 0)) dv 0) = L4c12.map fun t => (lv V16 46 47 48 d4 (restS 13 bR) t).map (Lz.up ns dv) := by kernel_rfl
theorem sg4bc12 : (L4c12.all fun t => (lv V16 46 47 48 d4 (restS 13 bR) t).all (leafOk L5)) = true := by kernel_rfl
theorem sg4ac13 (ns : List Int) (dv : Dv) : L4c13.map (fun t => explore V16 2 46 47 48 d4 (restS 13 bR) t.ρ (t.mem ns (dv 0)) dv 0) = L4c13.map fun t => (lv V16 46 47 48 d4 (restS 13 bR) t).map (Lz.up ns dv) := by kernel_rfl
theorem sg4bc13 : (L4c13.all fun t => (lv V16 46 47 48 d4 (restS 13 bR) t).all (leafOk L5)) = true := by kernel_rfl
theorem sg4ac14 (ns : List Int) (dv : Dv) : L4c14.map (fun t => explore V16 2 46 47 48 d4 (restS 13 bR) t.ρ (t.mem ns (dv 0)) dv 0) = L4c14.map fun t => (lv V16 46 47 48 d4 (restS 13 bR) t).map (Lz.up ns dv) := by kernel_rfl
theorem sg4bc14 : (L4c14.all fun t => (lv V16 46 47 48 d4 (restS 13 bR) t).all (leafOk L5)) = true := by kernel_rfl
theorem sg4ac15 (ns : List Int) (dv : Dv) : L4c15.map (fun t => explore V16 2 46 47 48 d4 (restS 13 bR) t.ρ (t.mem ns (dv 0)) dv 0) = L4c15.map fun t => (lv V16 46 47 48 d4 (restS 13 bR) t).map (Lz.up ns dv) := by kernel_rfl
theorem sg4bc15 : (L4c15.all fun t => (lv V16 46 47 48 d4 (restS 13 bR) t).all (leafOk L5)) = true := by kernel_rfl
theorem sg4ac16 (ns : List Int) (dv : Dv) : L4c16.map (fun t => explore V16 2 46 47 48 d4 (restS 13 bR) t.ρ (t.mem ns (dv 0)) dv 0) = L4c16.map fun t => (lv V16 46 47 48 d4 (restS 13 bR) t).map (Lz.up ns dv) := by kernel_rfl
theorem sg4bc16 : (L4c16.all fun t => (lv V16 46 47 48 d4 (restS 13 bR) t).all (leafOk L5)) = true := by kernel_rfl
theorem sg4ac17 (ns : List Int) (dv : Dv) : L4c17.map (fun t => explore V16 2 46 47 48 d4 (restS 13 bR) t.ρ (t.mem ns (dv 0)) dv 0) = L4c17.map fun t => (lv V16 46 47 48 d4 (restS 13 bR) t).map (Lz.up ns dv) := by kernel_rfl
theorem sg4bc17 : (L4c17.all fun t => (lv V16 46 47 48 d4 (restS 13 bR) t).all (leafOk L5)) = true := by kernel_rfl
theorem sg4ac18 (ns : List Int) (dv : Dv) : L4c18.map (fun t => explore V16 2 46 47 48 d4 (restS 13 bR) t.ρ (t.mem ns (dv 0)) dv 0) = L4c18.map fun t => (lv V16 46 47 48 d4 (restS 13 bR) t).map (Lz.up ns dv) := by kernel_rfl
theorem sg4bc18 : (L4c18.all fun t => (lv V16 46 47 48 d4 (restS 13 bR) t).all (leafOk L5)) = true := by kernel_rfl
theorem ok5 : ∀ t ∈ L5, OkFrom V16 [] (restS 14 bR) t := fun t h => by cases h
theorem ok4c0 : ∀ t ∈ L4c0, OkFrom V16 (d4 ++ []) (restS 13 bR) t := seg dice sg4ac0 sg4bc0 ok5
theorem ok4c1 : ∀ t ∈ L4c1, OkFrom V16 (d4 ++ []) (restS 13 bR) t := seg dice sg4ac1 sg4bc1 ok5
theorem ok4c2 : ∀ t ∈ L4c2, OkFrom V16 (d4 ++ []) (restS 13 bR) t := seg dice sg4ac2 sg4bc2 ok5
theorem ok4c3 : ∀ t ∈ L4c3, OkFrom V16 (d4 ++ []) (restS 13 bR) t := seg dice sg4ac3 sg4bc3 ok5
theorem ok4c4 : ∀ t ∈ L4c4, OkFrom V16 (d4 ++ []) (restS 13 bR) t := seg dice sg4ac4 sg4bc4 ok5
theorem ok4c5 : ∀ t ∈ L4c5, OkFrom V16 (d4 ++ []) (restS 13 bR) t := seg dice sg4ac5 sg4bc5 ok5
theorem ok4c6 : ∀ t ∈ L4c6, OkFrom V16 (d4 ++ []) (restS 13 bR) t := seg dice sg4ac6 sg4bc6 ok5
theorem ok4c7 : ∀ t ∈ L4c7, OkFrom V16 (d4 ++ []) (restS 13 bR) t := seg dice sg4ac7 sg4bc7 ok5
theorem ok4c8 : ∀ t ∈ L4c8, OkFrom V16 (d4 ++ []) (restS 13 bR) t := seg dice sg4ac8 sg4bc8 ok5
theorem ok4c9 : ∀ t ∈ L4c9, OkFrom V16 (d4 ++ []) (restS 13 bR) t := seg dice sg4ac9 sg4bc9 ok5
theorem ok4c10 : ∀ t ∈ L4c10, OkFrom V16 (d4 ++ []) (restS 13 bR) t := seg dice sg4ac10 sg4bc10 ok5
theorem ok4c11 : ∀ t ∈ L4c11, OkFrom V16 (d4 ++ []) (restS 13 bR) t := seg dice sg4ac11 sg4bc11 ok5
theorem ok4c12 : ∀ t ∈ L4c12, OkFrom V16 (d4 ++ []) (restS 13 bR) t := seg dice sg4ac12 sg4bc12 ok5
theorem ok4c13 : ∀ t ∈ L4c13, OkFrom V16 (d4 ++ []) (restS 13 bR) t := seg dice sg4ac13 sg4bc13 ok5
theorem ok4c14 : ∀ t ∈ L4c14, OkFrom V16 (d4 ++ []) (restS 13 bR) t := seg dice sg4ac14 sg4bc14 ok5
theorem ok4c15 : ∀ t ∈ L4c15, OkFrom V16 (d4 ++ []) (restS 13 bR) t := seg dice sg4ac15 sg4bc15 ok5
theorem ok4c16 : ∀ t ∈ L4c16, OkFrom V16 (d4 ++ []) (restS 13 bR) t := seg dice sg4ac16 sg4bc16 ok5
theorem ok4c17 : ∀ t ∈ L4c17, OkFrom V16 (d4 ++ []) (restS 13 bR) t := seg dice sg4ac17 sg4bc17 ok5
theorem ok4c18 : ∀ t ∈ L4c18, OkFrom V16 (d4 ++ []) (restS 13 bR) t := seg dice sg4ac18 sg4bc18 ok5
theorem ok4 : ∀ t ∈ L4, OkFrom V16 (d4 ++ []) (restS 13 bR) t := fun t => (fun h => (List.mem_append.mp h).elim (ok4c0 t) ((fun h => (List.mem_append.mp h).elim (ok4c1 t) ((fun h => (List.mem_append.mp h).elim (ok4c2 t) ((fun h => (List.mem_append.mp h).elim (ok4c3 t) ((fun h => (List.mem_append.mp h).elim (ok4c4 t) ((fun h => (List.mem_append.mp h).elim (ok4c5 t) ((fun h => (List.mem_append.mp h).elim (ok4c6 t) ((fun h => (List.mem_append.mp h).elim (ok4c7 t) ((fun h => (List.mem_append.mp h).elim (ok4c8 t) ((fun h => (List.mem_append.mp h).elim (ok4c9 t) ((fun h => (List.mem_append.mp h).elim (ok4c10 t) ((fun h => (List.mem_append.mp h).elim (ok4c11 t) ((fun h => (List.mem_append.mp h).elim (ok4c12 t) ((fun h => (List.mem_append.mp h).elim (ok4c13 t) ((fun h => (List.mem_append.mp h).elim (ok4c14 t) ((fun h => (List.mem_append.mp h).elim (ok4c15 t) ((fun h => (List.mem_append.mp h).elim (ok4c16 t) ((fun h => (List.mem_append.mp h).elim (ok4c17 t) (ok4c18 t))))))))))))))))))))))))))))))))))))
theorem ok3 : ∀ t ∈ L3, OkFrom V16 (d3 ++ (d4 ++ [])) (restS 11 bR) t := seg dice sg3a sg3b ok4
theorem ok2c0 : ∀ t ∈ L2c0, OkFrom V16 (d2 ++ (d3 ++ (d4 ++ []))) (restS 7 bR) t := seg dice sg2ac0 sg2bc0 ok3
theorem ok2c1 : ∀ t ∈ L2c1, OkFrom V16 (d2 ++ (d3 ++ (d4 ++ []))) (restS 7 bR) t := seg dice sg2ac1 sg2bc1 ok3
theorem ok2c2 : ∀ t ∈ L2c2, OkFrom V16 (d2 ++ (d3 ++ (d4 ++ []))) (restS 7 bR) t := seg dice sg2ac2 sg2bc2 ok3
theorem ok2 : ∀ t ∈ L2, OkFrom V16 (d2 ++ (d3 ++ (d4 ++ []))) (restS 7 bR) t := fun t => (fun h => (List.mem_append.mp h).elim (ok2c0 t) ((fun h => (List.mem_append.mp h).elim (ok2c1 t) (ok2c2 t))))
theorem ok1c0 : ∀ t ∈ L1c0, OkFrom V16 (d1 ++ (d2 ++ (d3 ++ (d4 ++ [])))) (restS 3 bR) t := seg dice sg1ac0 sg1bc0 ok2
theorem ok1c1 : ∀ t ∈ L1c1, OkFrom V16 (d1 ++ (d2 ++ (d3 ++ (d4 ++ [])))) (restS 3 bR) t := seg dice sg1ac1 sg1bc1 ok2
theorem ok1c2 : ∀ t ∈ L1c2, OkFrom V16 (d1 ++ (d2 ++ (d3 ++ (d4 ++ [])))) (restS 3 bR) t := seg dice sg1ac2 sg1bc2 ok2
theorem ok1c3 : ∀ t ∈ L1c3, OkFrom V16 (d1 ++ (d2 ++ (d3 ++ (d4 ++ [])))) (restS 3 bR) t := seg dice sg1ac3 sg1bc3 ok2
theorem ok1c4 : ∀ t ∈ L1c4, OkFrom V16 (d1 ++ (d2 ++ (d3 ++ (d4 ++ [])))) (restS 3 bR) t := seg dice sg1ac4 sg1bc4 ok2
theorem ok1c5 : ∀ t ∈ L1c5, OkFrom V16 (d1 ++ (d2 ++ (d3 ++ (d4 ++ [])))) (restS 3 bR) t := seg dice sg1ac5 sg1bc5 ok2
theorem ok1c6 : ∀ t ∈ L1c6, OkFrom V16 (d1 ++ (d2 ++ (d3 ++ (d4 ++ [])))) (restS 3 bR) t := seg dice sg1ac6 sg1bc6 ok2
theorem ok1c7 : ∀ t ∈ L1c7, OkFrom V16 (d1 ++ (d2 ++ (d3 ++ (d4 ++ [])))) (restS 3 bR) t := seg dice sg1ac7 sg1bc7 ok2
theorem ok1c8 : ∀ t ∈ L1c8, OkFrom V16 (d1 ++ (d2 ++ (d3 ++ (d4 ++ [])))) (restS 3 bR) t := seg dice sg1ac8 sg1bc8 ok2
theorem ok1c9 : ∀ t ∈ L1c9, OkFrom V16 (d1 ++ (d2 ++ (d3 ++ (d4 ++ [])))) (restS 3 bR) t := seg dice sg1ac9 sg1bc9 ok2
theorem ok1c10 : ∀ t ∈ L1c10, OkFrom V16 (d1 ++ (d2 ++ (d3 ++ (d4 ++ [])))) (restS 3 bR) t := seg dice sg1ac10 sg1bc10 ok2
theorem ok1c11 : ∀ t ∈ L1c11, OkFrom V16 (d1 ++ (d2 ++ (d3 ++ (d4 ++ [])))) (restS 3 bR) t := seg dice sg1ac11 sg1bc11 ok2
theorem ok1c12 : ∀ t ∈ L1c12, OkFrom V16 (d1 ++ (d2 ++ (d3 ++ (d4 ++ [])))) (restS 3 bR) t := seg dice sg1ac12 sg1bc12 ok2
theorem ok1c13 : ∀ t ∈ L1c13, OkFrom V16 (d1 ++ (d2 ++ (d3 ++ (d4 ++ [])))) (restS 3 bR) t := seg dice sg1ac13 sg1bc13 ok2
theorem ok1c14 : ∀ t ∈ L1c14, OkFrom V16 (d1 ++ (d2 ++ (d3 ++ (d4 ++ [])))) (restS 3 bR) t := seg dice sg1ac14 sg1bc14 ok2
theorem ok1c15 : ∀ t ∈ L1c15, OkFrom V16 (d1 ++ (d2 ++ (d3 ++ (d4 ++ [])))) (restS 3 bR) t := seg dice sg1ac15 sg1bc15 ok2
theorem ok1c16 : ∀ t ∈ L1c16, OkFrom V16 (d1 ++ (d2 ++ (d3 ++ (d4 ++ [])))) (restS 3 bR) t := seg dice sg1ac16 sg1bc16 ok2
theorem ok1 : ∀ t ∈ L1, OkFrom V16 (d1 ++ (d2 ++ (d3 ++ (d4 ++ [])))) (restS 3 bR) t := fun t => (fun h => (List.mem_append.mp h).elim (ok1c0 t) ((fun h => (List.mem_append.mp h).elim (ok1c1 t) ((fun h => (List.mem_append.mp h).elim (ok1c2 t) ((fun h => (List.mem_append.mp h).elim (ok1c3 t) ((fun h => (List.mem_append.mp h).elim (ok1c4 t) ((fun h => (List.mem_append.mp h).elim (ok1c5 t) ((fun h => (List.mem_append.mp h).elim (ok1c6 t) ((fun h => (List.mem_append.mp h).elim (ok1c7 t) ((fun h => (List.mem_append.mp h).elim (ok1c8 t) ((fun h => (List.mem_append.mp h).elim (ok1c9 t) ((fun h => (List.mem_append.mp h).elim (ok1c10 t) ((fun h => (List.mem_append.mp h).elim (ok1c11 t) ((fun h => (List.mem_append.mp h).elim (ok1c12 t) ((fun h => (List.mem_append.mp h).elim (ok1c13 t) ((fun h => (List.mem_append.mp h).elim (ok1c14 t) ((fun h => (List.mem_append.mp h).elim (ok1c15 t) (ok1c16 t))))))))))))))))))))))))))))))))
theorem ok0 : ∀ t ∈ L0, OkFrom V16 (d0 ++ (d1 ++ (d2 ++ (d3 ++ (d4 ++ []))))) (bR) t := seg dice sg0a sg0b ok1
theorem right_run {ns : List Int} {a b c : Int} : ∃ a' b' c', run T 19 51 [.ref 1] ⟨2, [(1, dL a b c), (0, .scr ns)]⟩ = .ok (.bl true) ⟨2, [(1, dL a' b' c'), (0, .scr ns)]⟩ := by
  obtain ⟨⟨a', b', c'⟩, e⟩ := ok0 _ (List.mem_cons_self ..) ns (a, b, c)
  refine ⟨a', b', c', ?_⟩
  rw [run_top (n := 16) (f := e51.fn) rfl rfl]
  exact e
end Pf

set_option Elab.async false
set_option linter.all false
set_option maxRecDepth 100000
set_option maxHeartbeats 4000000
namespace Pf
open PySem L2 Ev
/-! the law -/
def M0 (ns : List Int) : Mem := ⟨1, [(0, .scr ns)]⟩
def MD (ns : List Int) (a b c : Int) : Mem := ⟨2, [(1, dL a b c), (0, .scr ns)]⟩
theorem tdL1 {m m' : Mem} {vs : List Nat} {ρ : Rho} (h : m'.nx = m.nx) : (tdL m.nx vs ρ m').1 = ρ := by rw [tdL_nx h]
theorem tdL2 {m m' : Mem} {vs : List Nat} {ρ : Rho} (h : m'.nx = m.nx) : (tdL m.nx vs ρ m').2 = m' := by rw [tdL_nx h]
section
variable {ns : List Int} {spot : Int} {m : Mem}
theorem len_scr : lenF (.ref 0) (M0 ns) = .ok (.int ns.length) (M0 ns) := by
  show Out.ok (D.int ((ns.map D.int).length : Int)) (M0 ns) = _
  rw [List.length_map]
theorem ix_scr (h0 : 0 ≤ spot) (h1 : spot < ns.length) : ∃ x, ixF (.ref 0) (.int spot) (M0 ns) = .ok (.int x) (M0 ns) := by
  have hl : spot < ((ns.map D.int).length : Int) := by rw [List.length_map]; exact h1
  obtain ⟨x, hx, e⟩ := atI_in (xs := ns.map D.int) h0 hl
  obtain ⟨i, _, rfl⟩ := List.mem_map.mp hx
  refine ⟨i, ?_⟩
  show opt (L2.atI (ns.map D.int) spot) (M0 ns) = _
  rw [e] <;> rfl
theorem pow1 : binF .pow (.int 10) (.int 54) m = .ok (.int (10 ^ 54)) m := by kernel_rfl
theorem pow2 : binF .pow (.int (10 ^ 54)) (.int 6) m = .ok (.int ((10 ^ 54) ^ 6)) m := by kernel_rfl
theorem pow3 : binF .pow (.int 10) (.int 16) m = .ok (.int (10 ^ 16)) m := by kernel_rfl
theorem dice_at (cell : Int) : ∃ a b c, ∀ n, denS (Lv T n) (.seq (.asg (.tnm 3) (.bin .mod (.blt .int (.cons (.blt .abs (.cons (.var 2) .nil)) .nil)) (.bin .pow (.bin .pow (.const (.int 10)) (.const (.int 54))) (.const (.int 6))))) (.seq (.asg (.tnm 4) (.bin .add (.bin .add (.bin .add (.bin .mul (.bin .mod (.var 3) (.const (.int 2305843009213693921))) (.const (.int 73))) (.bin .mul (.const (.int 757)) (.var 1))) (.bin .mul (.const (.int 43)) (.blt .int (.cons (.cmp .lt (.var 2) (.const (.int 0))) .nil)))) (.const (.int 37)))) (.seq (.ret (.lst (.cons (.blt .max2 (.cons (.const (.int 0)) (.cons (.bin .sub (.var 3) (.bin .pow (.const (.int 10)) (.const (.int 16)))) .nil))) (.cons (.var 4) (.cons (.const (.int 0)) .nil))))) .skip))) [some (.ref 0), some (.int spot), some (.int cell), none, none] (M0 ns) = .ret (.ref 1) (MD ns a b c) := by
  have k1 : b64 73 = true := by decide
  have k2 : b64 757 = true := by decide
  have k3 : b64 43 = true := by decide
  have z1 : decide (((10 : Int) ^ 54) ^ 6 = 0) = false := by decide +kernel
  have z2 : decide ((2305843009213693921 : Int) = 0) = false := by decide
  refine ⟨if 0 < (if cell < 0 then -cell else cell).fmod ((10 ^ 54) ^ 6) - 10 ^ 16 then (if cell < 0 then -cell else cell).fmod ((10 ^ 54) ^ 6) - 10 ^ 16 else 0,
    ((if cell < 0 then -cell else cell).fmod ((10 ^ 54) ^ 6)).fmod 2305843009213693921 * 73 + 757 * spot + 43 * (if decide (cell < 0) = true then 1 else 0) + 37, 0, fun n => ?_⟩
  simp only [tdS_same, tdS_put, ix30, ix31, ix32, ix40, ix41, ix42, ix43, ix20, ix21, Ent.fn, startR, denS, den, asV, asS, asT, consM, lstM, bin2, negM, testM, sel_t, sel_f, selAnd, selOr, selNot, truth_bl, iteM, bandM, borM, Ev.notM, chainM, callM, bltM, partM, partD, sliceM, rng1M, rng2M, tnilM, tconsM, tnmM, noX, Out.bind, Out.st, opt, okk, getR, List.map, List.replicate, List.append, List.length, List.set, Nat.sub, HAppend.hAppend, Append.append, addF, subF, ltM, leM, gtM, geM, eqM, neM, fin, bltF, one, two, onSeq, onInt, onLst, onSome, seqOf, len0, len1, len2, len3, len4, len5, intF, isaF, tyOf, isaT, E.isNo, Bool.not_true, Bool.not_false, pow1, pow2, pow3, modF, z1, z2, mulF_l, mulF_r, k1, k2, k3, intF]
  rfl
theorem dice_run (h0 : 0 ≤ spot) : ∃ a b c, ∀ n, run T (n + 3) 45 [.ref 0, .int spot] (M0 ns) = .ok (.ref 1) (MD ns a b c) := by
  have key : ∃ cell, ∀ n, denS (Lv T n) (.asg (.tnm 2) (.ite (.cmp .lt (.var 1) (.blt .len (.cons (.var 0) .nil))) (.blt .int (.cons (.ix (.var 0) (.var 1)) .nil)) (.bin .add (.bin .mul (.const (.int 157)) (.var 1)) (.const (.int 61))))) [some (.ref 0), some (.int spot), none, none, none] (M0 ns) = .nx [some (.ref 0), some (.int spot), some (.int cell), none, none] (M0 ns) := by
    by_cases hs : spot < ns.length
    · obtain ⟨x, e⟩ := ix_scr h0 hs
      exact ⟨x, fun n => by simp only [tdS_same, tdS_put, ix30, ix31, ix32, ix40, ix41, ix42, ix43, ix20, ix21, Ent.fn, startR, denS, den, asV, asS, asT, consM, lstM, bin2, negM, testM, sel_t, sel_f, selAnd, selOr, selNot, truth_bl, iteM, bandM, borM, Ev.notM, chainM, callM, bltM, partM, partD, sliceM, rng1M, rng2M, tnilM, tconsM, tnmM, noX, Out.bind, Out.st, opt, okk, getR, List.map, List.replicate, List.append, List.length, List.set, Nat.sub, HAppend.hAppend, Append.append, addF, subF, ltM, leM, gtM, geM, eqM, neM, fin, bltF, one, two, onSeq, onInt, onLst, onSome, seqOf, len0, len1, len2, len3, len4, len5, intF, isaF, tyOf, isaT, E.isNo, Bool.not_true, Bool.not_false, len_scr, decide_eq_true hs, e, intF]⟩
    · exact ⟨157 * spot + 61, fun n => by simp only [tdS_same, tdS_put, ix30, ix31, ix32, ix40, ix41, ix42, ix43, ix20, ix21, Ent.fn, startR, denS, den, asV, asS, asT, consM, lstM, bin2, negM, testM, sel_t, sel_f, selAnd, selOr, selNot, truth_bl, iteM, bandM, borM, Ev.notM, chainM, callM, bltM, partM, partD, sliceM, rng1M, rng2M, tnilM, tconsM, tnmM, noX, Out.bind, Out.st, opt, okk, getR, List.map, List.replicate, List.append, List.length, List.set, Nat.sub, HAppend.hAppend, Append.append, addF, subF, ltM, leM, gtM, geM, eqM, neM, fin, bltF, one, two, onSeq, onInt, onLst, onSome, seqOf, len0, len1, len2, len3, len4, len5, intF, isaF, tyOf, isaT, E.isNo, Bool.not_true, Bool.not_false, len_scr, decide_eq_false hs, mulF_l, show b64 157 = true by decide]⟩
  obtain ⟨cell, e1⟩ := key
  obtain ⟨a, b, c, e2⟩ := dice_at (ns := ns) (spot := spot) cell
  refine ⟨a, b, c, fun n => ?_⟩
  rw [run_at (f := e45.fn) rfl rfl]
  show fin 1 (denS (Lv T n) (.seq (.asg (.tnm 2) (.ite (.cmp .lt (.var 1) (.blt .len (.cons (.var 0) .nil))) (.blt .int (.cons (.ix (.var 0) (.var 1)) .nil)) (.bin .add (.bin .mul (.const (.int 157)) (.var 1)) (.const (.int 61))))) (.seq (.asg (.tnm 3) (.bin .mod (.blt .int (.cons (.blt .abs (.cons (.var 2) .nil)) .nil)) (.bin .pow (.bin .pow (.const (.int 10)) (.const (.int 54))) (.const (.int 6))))) (.seq (.asg (.tnm 4) (.bin .add (.bin .add (.bin .add (.bin .mul (.bin .mod (.var 3) (.const (.int 2305843009213693921))) (.const (.int 73))) (.bin .mul (.const (.int 757)) (.var 1))) (.bin .mul (.const (.int 43)) (.blt .int (.cons (.cmp .lt (.var 2) (.const (.int 0))) .nil)))) (.const (.int 37)))) (.seq (.ret (.lst (.cons (.blt .max2 (.cons (.const (.int 0)) (.cons (.bin .sub (.var 3) (.bin .pow (.const (.int 10)) (.const (.int 16)))) .nil))) (.cons (.var 4) (.cons (.const (.int 0)) .nil))))) .skip)))) [some (.ref 0), some (.int spot), none, none, none] (M0 ns)) = _
  rw [seq_nx (e1 n), tdS_same, e2 n]
  rfl
end
section
variable {ns : List Int}
/-- one spot -/
theorem turn_law (o2 o3 : Option D) (i : Int) (h : 0 ≤ i) (h3 : low1 1 o3 = true) : ∃ o3' m' a b c, m' = MD ns a b c ∧ low1 1 o3' = true ∧ denS (Lv T 17) (.seq (.asg (.tnm 2) (.call 45 (.cons (.var 0) (.cons (.var 1) .nil)))) (.seq (.forr (.tnm 3) (.rng1 (.const (.int 3))) (.seq (.iff (.bnot (.call 51 (.cons (.var 2) .nil))) (.seq (.ret (.const (.bl false))) .skip) .skip) .skip)) .skip)) [some (.ref 0), some (.int i), o2, o3, none, none] (M0 ns) = .nx [some (.ref 0), some (.int i), some (.ref 1), o3', none, none] m' := by
  obtain ⟨a, b, c, e1⟩ := dice_run (ns := ns) h
  obtain ⟨ρ', m', e2, o3', a', b', c', rfl, rfl, h3'⟩ := forL_inv (vs := leadS (.seq (.iff (.bnot (.call 51 (.cons (.var 2) .nil))) (.seq (.ret (.const (.bl false))) .skip) .skip) .skip)) (a := fun d ρ m => noX ((den (Lv T 17) (.tnm 3)).t d ρ m)) (b := fun ρ m => denS (Lv T 17) (.seq (.iff (.bnot (.call 51 (.cons (.var 2) .nil))) (.seq (.ret (.const (.bl false))) .skip) .skip) .skip) ρ m)
    (P := fun ρ m => ∃ o3' a b c, ρ = [some (.ref 0), some (.int i), some (.ref 1), o3', none, none] ∧ m = MD ns a b c ∧ low1 1 o3' = true) (I := fun d => lowD 1 d = true)
    (fun d ρ m hI ⟨o3', a, b, c, hρ, hm, _⟩ => by
      subst hρ; subst hm
      obtain ⟨a1, b1, c1, er1⟩ : ∃ a1 b1 c1, run T 19 51 [.ref 1] (MD ns a b c) = .ok (.bl true) (MD ns a1 b1 c1) := right_run (ns := ns) (a := a) (b := b) (c := c)
      refine ⟨_, _, [some (.ref 0), some (.int i), some (.ref 1), some d, none, none], MD ns a1 b1 c1, rfl, ?_, some d, a1, b1, c1, ?_, ?_, hI⟩
      · show denS (Lv T 17) (.seq (.iff (.bnot (.call 51 (.cons (.var 2) .nil))) (.seq (.ret (.const (.bl false))) .skip) .skip) .skip) [some (.ref 0), some (.int i), some (.ref 1), some d, none, none] (MD ns a b c) = _
        simp only [tdS_same, tdS_put, ix30, ix31, ix32, ix40, ix41, ix42, ix43, ix20, ix21, Ent.fn, startR, denS, den, asV, asS, asT, consM, lstM, bin2, negM, testM, sel_t, sel_f, selAnd, selOr, selNot, truth_bl, iteM, bandM, borM, Ev.notM, chainM, callM, bltM, partM, partD, sliceM, rng1M, rng2M, tnilM, tconsM, tnmM, noX, Out.bind, Out.st, opt, okk, getR, List.map, List.replicate, List.append, List.length, List.set, Nat.sub, HAppend.hAppend, Append.append, addF, subF, ltM, leM, gtM, geM, eqM, neM, fin, bltF, one, two, onSeq, onInt, onLst, onSome, seqOf, len0, len1, len2, len3, len4, len5, intF, isaF, tyOf, isaT, E.isNo, Bool.not_true, Bool.not_false, er1]
        rfl
      · exact tdL1 (m := MD ns a b c) rfl
      · exact tdL2 (m := MD ns a b c) rfl) [.int 0, .int 1, .int 2] [some (.ref 0), some (.int i), some (.ref 1), o3, none, none] (MD ns a b c) (fun d hd => by
      simp only [List.mem_cons, List.not_mem_nil, or_false] at hd
      rcases hd with rfl | rfl | rfl <;> rfl) ⟨o3, a, b, c, rfl, rfl, h3⟩
  refine ⟨o3', _, a', b', c', rfl, h3', ?_⟩
  have s1 : denS (Lv T 17) (.asg (.tnm 2) (.call 45 (.cons (.var 0) (.cons (.var 1) .nil)))) [some (.ref 0), some (.int i), o2, o3, none, none] (M0 ns) = .nx [some (.ref 0), some (.int i), some (.ref 1), o3, none, none] (MD ns a b c) := by
    simp only [tdS_same, tdS_put, ix30, ix31, ix32, ix40, ix41, ix42, ix43, ix20, ix21, Ent.fn, startR, denS, den, asV, asS, asT, consM, lstM, bin2, negM, testM, sel_t, sel_f, selAnd, selOr, selNot, truth_bl, iteM, bandM, borM, Ev.notM, chainM, callM, bltM, partM, partD, sliceM, rng1M, rng2M, tnilM, tconsM, tnmM, noX, Out.bind, Out.st, opt, okk, getR, List.map, List.replicate, List.append, List.length, List.set, Nat.sub, HAppend.hAppend, Append.append, addF, subF, ltM, leM, gtM, geM, eqM, neM, fin, bltF, one, two, onSeq, onInt, onLst, onSome, seqOf, len0, len1, len2, len3, len4, len5, intF, isaF, tyOf, isaT, E.isNo, Bool.not_true, Bool.not_false, e1]
  rw [seq_nx s1]
  have t1 : tdS (M0 ns).nx [some (.ref 0), some (.int i), some (.ref 1), o3, none, none] (MD ns a b c) = MD ns a b c := rfl
  rw [t1]
  have s2 : denS (Lv T 17) (.forr (.tnm 3) (.rng1 (.const (.int 3))) (.seq (.iff (.bnot (.call 51 (.cons (.var 2) .nil))) (.seq (.ret (.const (.bl false))) .skip) .skip) .skip)) [some (.ref 0), some (.int i), some (.ref 1), o3, none, none] (MD ns a b c) = .nx [some (.ref 0), some (.int i), some (.ref 1), o3', none, none] (MD ns a' b' c') :=
    (for_items (ds := [.int 0, .int 1, .int 2]) rfl).trans e2
  rw [seq_nx s2]
  rfl
theorem tail_law (ns : List Int) : fin 1 (denS (Lv T 17) (.seq (.asg (.ttup (.tcons (.tnm 4) (.tcons (.tnm 5) .tnil))) (.tup (.cons (.call 25 (.cons (.call 25 (.cons (.call 24 (.cons (.const (.int 1)) .nil)) (.cons (.const (.int 1000)) .nil))) (.cons (.const (.int 1000)) .nil))) (.cons (.call 25 (.cons (.call 24 (.cons (.const (.int 1)) .nil)) (.cons (.const (.int 3)) .nil))) .nil)))) (.seq (.iff (.cmp .ne (.met 8 [ .ret 0 (.str "form") , .ret 1 (.str "sign") , .ret 2 (.str "table") , .ret 3 (.str "row") , .ret 4 (.str "operation") , .rep 5 "count " , .rep 6 "many " , .rep 7 "refused " ] (.str "none") (.call 35 (.cons (.var 4) (.cons (.var 5) (.cons (.const (.int 1)) .nil))))) (.const (.str "many 1000000"))) (.seq (.ret (.const (.bl false))) .skip) .skip) (.seq (.ret (.cmp .eq (.met 8 [ .ret 0 (.str "form") , .ret 1 (.str "sign") , .ret 2 (.str "table") , .ret 3 (.str "row") , .ret 4 (.str "operation") , .rep 5 "count " , .rep 6 "many " , .rep 7 "refused " ] (.str "none") (.call 36 (.cons (.var 4) .nil))) (.const (.str "none")))) .skip))) [some (.ref 0), none, none, none, none, none] (M0 ns)) = .ok (.bl true) (M0 ns) := by kernel_rfl
theorem law_run (hn : ns.length ≤ 63) : run T 20 52 [.ref 0] (M0 ns) = .ok (.bl true) (M0 ns) := by
  rw [run_top (f := e52.fn) rfl rfl]
  have bd : ∃ k : Int, 0 ≤ k ∧ k ≤ 63 ∧ (den (Lv T 17) (.rng1 (.blt .max2 (.cons (.const (.int 1)) (.cons (.blt .min2 (.cons (.const (.int 8)) (.cons (.blt .len (.cons (.var 0) .nil)) .nil))) .nil))))).s [some (.ref 0), none, none, none, none, none] (M0 ns) = .ok (.items (iota 0 (k - 0).toNat)) (M0 ns) := by
    refine ⟨if (1 : Int) < (if (ns.length : Int) < 8 then (ns.length : Int) else 8) then (if (ns.length : Int) < 8 then (ns.length : Int) else 8) else 1, ?_, ?_, ?_⟩
    · split <;> split <;> omega
    · split <;> split <;> omega
    · simp only [tdS_same, tdS_put, ix30, ix31, ix32, ix40, ix41, ix42, ix43, ix20, ix21, Ent.fn, startR, denS, den, asV, asS, asT, consM, lstM, bin2, negM, testM, sel_t, sel_f, selAnd, selOr, selNot, truth_bl, iteM, bandM, borM, Ev.notM, chainM, callM, bltM, partM, partD, sliceM, rng1M, rng2M, tnilM, tconsM, tnmM, noX, Out.bind, Out.st, opt, okk, getR, List.map, List.replicate, List.append, List.length, List.set, Nat.sub, HAppend.hAppend, Append.append, addF, subF, ltM, leM, gtM, geM, eqM, neM, fin, bltF, one, two, onSeq, onInt, onLst, onSome, seqOf, len0, len1, len2, len3, len4, len5, intF, isaF, tyOf, isaT, E.isNo, Bool.not_true, Bool.not_false, len_scr, rngI]
      rw [show (small 0 && small (if (1 : Int) < (if (ns.length : Int) < 8 then (ns.length : Int) else 8) then (if (ns.length : Int) < 8 then (ns.length : Int) else 8) else 1)) = true by
        simp only [small, Bool.and_eq_true, decide_eq_true_eq]; split <;> split <;> omega]
  obtain ⟨k, k0, k1, ek⟩ := bd
  obtain ⟨ρ', m', e2, o1, o2, o3, rfl, rfl, _⟩ := forL_inv (vs := leadS (.seq (.asg (.tnm 2) (.call 45 (.cons (.var 0) (.cons (.var 1) .nil)))) (.seq (.forr (.tnm 3) (.rng1 (.const (.int 3))) (.seq (.iff (.bnot (.call 51 (.cons (.var 2) .nil))) (.seq (.ret (.const (.bl false))) .skip) .skip) .skip)) .skip))) (a := fun d ρ m => noX ((den (Lv T 17) (.tnm 1)).t d ρ m)) (b := fun ρ m => denS (Lv T 17) (.seq (.asg (.tnm 2) (.call 45 (.cons (.var 0) (.cons (.var 1) .nil)))) (.seq (.forr (.tnm 3) (.rng1 (.const (.int 3))) (.seq (.iff (.bnot (.call 51 (.cons (.var 2) .nil))) (.seq (.ret (.const (.bl false))) .skip) .skip) .skip)) .skip)) ρ m)
    (P := fun ρ m => ∃ (o1 o2 o3 : Option D), ρ = [some (.ref 0), o1, o2, o3, none, none] ∧ m = M0 ns ∧ low1 1 o3 = true) (I := fun d => ∃ i, d = .int i ∧ 0 ≤ i)
    (fun d ρ m hI ⟨o1, o2, o3, hρ, hm, h3⟩ => by
      obtain ⟨i, rfl, hi⟩ := hI
      subst hρ; subst hm
      obtain ⟨o3', m', a, b, c, rfl, h3', e⟩ := turn_law (ns := ns) o2 o3 i hi h3
      have tl : tdL (M0 ns).nx (leadS (.seq (.asg (.tnm 2) (.call 45 (.cons (.var 0) (.cons (.var 1) .nil)))) (.seq (.forr (.tnm 3) (.rng1 (.const (.int 3))) (.seq (.iff (.bnot (.call 51 (.cons (.var 2) .nil))) (.seq (.ret (.const (.bl false))) .skip) .skip) .skip)) .skip))) [some (.ref 0), some (.int i), some (.ref 1), o3', none, none] (MD ns a b c) = ([some (.ref 0), some (.int i), none, o3', none, none], M0 ns) := by
        have hv : leadS (.seq (.asg (.tnm 2) (.call 45 (.cons (.var 0) (.cons (.var 1) .nil)))) (.seq (.forr (.tnm 3) (.rng1 (.const (.int 3))) (.seq (.iff (.bnot (.call 51 (.cons (.var 2) .nil))) (.seq (.ret (.const (.bl false))) .skip) .skip) .skip)) .skip)) = [2] := rfl
        rw [hv]
        have e1 : lowAll 1 [some (.ref 0), some (.int i), some (.ref 1), o3', none, none] = false := by
          simp only [lowAll_cons]
          rfl
        have e2 : lowAll 1 [some (.ref 0), some (.int i), none, o3', none, none] = true := by
          simp only [lowAll_cons, h3']
          rfl
        show (match lowAll 1 [some (.ref 0), some (.int i), some (.ref 1), o3', none, none] with
          | true => (([some (.ref 0), some (.int i), some (.ref 1), o3', none, none] : Rho), M0 ns)
          | false => (match lowAll 1 [some (.ref 0), some (.int i), none, o3', none, none] with
            | true => ([some (.ref 0), some (.int i), none, o3', none, none], M0 ns)
            | false => ([some (.ref 0), some (.int i), some (.ref 1), o3', none, none], MD ns a b c))) = _
        rw [e1]
        dsimp only
        rw [e2]
      exact ⟨[some (.ref 0), some (.int i), o2, o3, none, none], M0 ns, _, _, rfl, e, some (.int i), none, o3', by rw [tl], by rw [tl], h3'⟩) (iota 0 (k - 0).toNat) [some (.ref 0), none, none, none, none, none] (M0 ns) (fun d hd => by
        obtain ⟨i, e, h, _⟩ := mem_iota hd
        exact ⟨i, e, h⟩) ⟨none, none, none, rfl, rfl, rfl⟩
  have s1 : denS (Lv T 17) (.forr (.tnm 1) (.rng1 (.blt .max2 (.cons (.const (.int 1)) (.cons (.blt .min2 (.cons (.const (.int 8)) (.cons (.blt .len (.cons (.var 0) .nil)) .nil))) .nil)))) (.seq (.asg (.tnm 2) (.call 45 (.cons (.var 0) (.cons (.var 1) .nil)))) (.seq (.forr (.tnm 3) (.rng1 (.const (.int 3))) (.seq (.iff (.bnot (.call 51 (.cons (.var 2) .nil))) (.seq (.ret (.const (.bl false))) .skip) .skip) .skip)) .skip))) [some (.ref 0), none, none, none, none, none] (M0 ns) = .nx [some (.ref 0), o1, o2, o3, none, none] (M0 ns) := by
    show ((den (Lv T 17) (.rng1 (.blt .max2 (.cons (.const (.int 1)) (.cons (.blt .min2 (.cons (.const (.int 8)) (.cons (.blt .len (.cons (.var 0) .nil)) .nil))) .nil))))).s [some (.ref 0), none, none, none, none, none] (M0 ns)).st _ _ = _
    rw [ek]
    exact e2
  have hT : denTop (Lv T 17) 1 [[1, 2, 3]] (.seq (.forr (.tnm 1) (.rng1 (.blt .max2 (.cons (.const (.int 1)) (.cons (.blt .min2 (.cons (.const (.int 8)) (.cons (.blt .len (.cons (.var 0) .nil)) .nil))) .nil)))) (.seq (.asg (.tnm 2) (.call 45 (.cons (.var 0) (.cons (.var 1) .nil)))) (.seq (.forr (.tnm 3) (.rng1 (.const (.int 3))) (.seq (.iff (.bnot (.call 51 (.cons (.var 2) .nil))) (.seq (.ret (.const (.bl false))) .skip) .skip) .skip)) .skip))) (.seq (.asg (.ttup (.tcons (.tnm 4) (.tcons (.tnm 5) .tnil))) (.tup (.cons (.call 25 (.cons (.call 25 (.cons (.call 24 (.cons (.const (.int 1)) .nil)) (.cons (.const (.int 1000)) .nil))) (.cons (.const (.int 1000)) .nil))) (.cons (.call 25 (.cons (.call 24 (.cons (.const (.int 1)) .nil)) (.cons (.const (.int 3)) .nil))) .nil)))) (.seq (.iff (.cmp .ne (.met 8 [ .ret 0 (.str "form") , .ret 1 (.str "sign") , .ret 2 (.str "table") , .ret 3 (.str "row") , .ret 4 (.str "operation") , .rep 5 "count " , .rep 6 "many " , .rep 7 "refused " ] (.str "none") (.call 35 (.cons (.var 4) (.cons (.var 5) (.cons (.const (.int 1)) .nil))))) (.const (.str "many 1000000"))) (.seq (.ret (.const (.bl false))) .skip) .skip) (.seq (.ret (.cmp .eq (.met 8 [ .ret 0 (.str "form") , .ret 1 (.str "sign") , .ret 2 (.str "table") , .ret 3 (.str "row") , .ret 4 (.str "operation") , .rep 5 "count " , .rep 6 "many " , .rep 7 "refused " ] (.str "none") (.call 36 (.cons (.var 4) .nil))) (.const (.str "none")))) .skip)))) [some (.ref 0), none, none, none, none, none] (M0 ns) = denS (Lv T 17) (.seq (.asg (.ttup (.tcons (.tnm 4) (.tcons (.tnm 5) .tnil))) (.tup (.cons (.call 25 (.cons (.call 25 (.cons (.call 24 (.cons (.const (.int 1)) .nil)) (.cons (.const (.int 1000)) .nil))) (.cons (.const (.int 1000)) .nil))) (.cons (.call 25 (.cons (.call 24 (.cons (.const (.int 1)) .nil)) (.cons (.const (.int 3)) .nil))) .nil)))) (.seq (.iff (.cmp .ne (.met 8 [ .ret 0 (.str "form") , .ret 1 (.str "sign") , .ret 2 (.str "table") , .ret 3 (.str "row") , .ret 4 (.str "operation") , .rep 5 "count " , .rep 6 "many " , .rep 7 "refused " ] (.str "none") (.call 35 (.cons (.var 4) (.cons (.var 5) (.cons (.const (.int 1)) .nil))))) (.const (.str "many 1000000"))) (.seq (.ret (.const (.bl false))) .skip) .skip) (.seq (.ret (.cmp .eq (.met 8 [ .ret 0 (.str "form") , .ret 1 (.str "sign") , .ret 2 (.str "table") , .ret 3 (.str "row") , .ret 4 (.str "operation") , .rep 5 "count " , .rep 6 "many " , .rep 7 "refused " ] (.str "none") (.call 36 (.cons (.var 4) .nil))) (.const (.str "none")))) .skip))) [some (.ref 0), none, none, none, none, none] (M0 ns) := by
    show (match denS (Lv T 17) (.forr (.tnm 1) (.rng1 (.blt .max2 (.cons (.const (.int 1)) (.cons (.blt .min2 (.cons (.const (.int 8)) (.cons (.blt .len (.cons (.var 0) .nil)) .nil))) .nil)))) (.seq (.asg (.tnm 2) (.call 45 (.cons (.var 0) (.cons (.var 1) .nil)))) (.seq (.forr (.tnm 3) (.rng1 (.const (.int 3))) (.seq (.iff (.bnot (.call 51 (.cons (.var 2) .nil))) (.seq (.ret (.const (.bl false))) .skip) .skip) .skip)) .skip))) [some (.ref 0), none, none, none, none, none] (M0 ns) with
      | .nx ρ' m' => denTop (Lv T 17) 1 [] (.seq (.asg (.ttup (.tcons (.tnm 4) (.tcons (.tnm 5) .tnil))) (.tup (.cons (.call 25 (.cons (.call 25 (.cons (.call 24 (.cons (.const (.int 1)) .nil)) (.cons (.const (.int 1000)) .nil))) (.cons (.const (.int 1000)) .nil))) (.cons (.call 25 (.cons (.call 24 (.cons (.const (.int 1)) .nil)) (.cons (.const (.int 3)) .nil))) .nil)))) (.seq (.iff (.cmp .ne (.met 8 [ .ret 0 (.str "form") , .ret 1 (.str "sign") , .ret 2 (.str "table") , .ret 3 (.str "row") , .ret 4 (.str "operation") , .rep 5 "count " , .rep 6 "many " , .rep 7 "refused " ] (.str "none") (.call 35 (.cons (.var 4) (.cons (.var 5) (.cons (.const (.int 1)) .nil))))) (.const (.str "many 1000000"))) (.seq (.ret (.const (.bl false))) .skip) .skip) (.seq (.ret (.cmp .eq (.met 8 [ .ret 0 (.str "form") , .ret 1 (.str "sign") , .ret 2 (.str "table") , .ret 3 (.str "row") , .ret 4 (.str "operation") , .rep 5 "count " , .rep 6 "many " , .rep 7 "refused " ] (.str "none") (.call 36 (.cons (.var 4) .nil))) (.const (.str "none")))) .skip))) (wipeR ρ' [1, 2, 3]) (tdMin 64 1 (wipeR ρ' [1, 2, 3]) m')
      | o => o) = _
    rw [s1]
    rfl
  show fin 1 (denTop (Lv T 17) 1 [[1, 2, 3]] (.seq (.forr (.tnm 1) (.rng1 (.blt .max2 (.cons (.const (.int 1)) (.cons (.blt .min2 (.cons (.const (.int 8)) (.cons (.blt .len (.cons (.var 0) .nil)) .nil))) .nil)))) (.seq (.asg (.tnm 2) (.call 45 (.cons (.var 0) (.cons (.var 1) .nil)))) (.seq (.forr (.tnm 3) (.rng1 (.const (.int 3))) (.seq (.iff (.bnot (.call 51 (.cons (.var 2) .nil))) (.seq (.ret (.const (.bl false))) .skip) .skip) .skip)) .skip))) (.seq (.asg (.ttup (.tcons (.tnm 4) (.tcons (.tnm 5) .tnil))) (.tup (.cons (.call 25 (.cons (.call 25 (.cons (.call 24 (.cons (.const (.int 1)) .nil)) (.cons (.const (.int 1000)) .nil))) (.cons (.const (.int 1000)) .nil))) (.cons (.call 25 (.cons (.call 24 (.cons (.const (.int 1)) .nil)) (.cons (.const (.int 3)) .nil))) .nil)))) (.seq (.iff (.cmp .ne (.met 8 [ .ret 0 (.str "form") , .ret 1 (.str "sign") , .ret 2 (.str "table") , .ret 3 (.str "row") , .ret 4 (.str "operation") , .rep 5 "count " , .rep 6 "many " , .rep 7 "refused " ] (.str "none") (.call 35 (.cons (.var 4) (.cons (.var 5) (.cons (.const (.int 1)) .nil))))) (.const (.str "many 1000000"))) (.seq (.ret (.const (.bl false))) .skip) .skip) (.seq (.ret (.cmp .eq (.met 8 [ .ret 0 (.str "form") , .ret 1 (.str "sign") , .ret 2 (.str "table") , .ret 3 (.str "row") , .ret 4 (.str "operation") , .rep 5 "count " , .rep 6 "many " , .rep 7 "refused " ] (.str "none") (.call 36 (.cons (.var 4) .nil))) (.const (.str "none")))) .skip)))) [some (.ref 0), none, none, none, none, none] (M0 ns)) = _
  rw [hT]
  exact tail_law ns
end
theorem lawOk : LawOk es 20 52 := ⟨fun ns hn => ⟨M0 ns, by
  have := law_run (ns := ns) hn
  exact this⟩⟩
end Pf

set_option maxHeartbeats 0
theorem PySem.Challenge.cw_turnseries_k82_errors_of_brackets_holds : PySem.Challenge.rw_turnseries_k82_errors_of_brackets.Holds := by
  exact Pf.holds Pf.lawOk
