import PyProof.Rows.All
import Wide.All
import OpenK.AllK
import Wide.FinOn
import HandS.Base
import HandS.Call
import HandS.List
import HandS.Dict
import PyProof.DictUpdate
import KE.KExcSuper
import HandS.Exc
import HandS.ExcSuper
import HandS.Words
import HandS.ExcIs
import HandS.ExcField
import HandS.TryOnly
import HandS.ForMost
import HandS.ForExc
import HandS.Deep
import HandS.IsInst
import HandS.Conv
import HandS.Defaults
import HandS.DictComp
import HandS.Codes
import HandS.Walk
import HandS.SortKw
import KE.SortKeyHeap
import HandS.ExcOwn
import HandS.WordsExc
import PySem.Challenge.RW_rulestead_k21_what_is_accepted
set_option Elab.async false
set_option linter.all false
set_option maxRecDepth 100000
set_option maxHeartbeats 4000000
namespace K21
open PySem PySem.Spec PyProof.Rows L2
section
variable {X : Cx}
/-- xs[i], read for xs[i] op= e -/
theorem get_list : PGet X (rIxL X.K) := by
  intro pins s σ H x y v u Q I rx ry h
  obtain ⟨p, xs, i, z, rfl, rfl, hq, he, q⟩ := h
  cases rx
  obtain ⟨t, rfl⟩ := ry
  obtain ⟨its, r, pl, hz⟩ := I.list hq
  obtain ⟨j, h1, h2, h3, h4, h5⟩ := atI_get he
  obtain ⟨w, ew, rw'⟩ := r.get h2
  have hl := r.length
  have hn := line63
  have fin : EP X pins σ Q w s := ⟨z, H, I, rw', q⟩
  by_cases h0 : 0 ≤ i
  · have hj : i.toNat = j := by
      rw [seqIndex_of h0 h5] at h1
      exact Option.some.inj h1
    exact wpAny_getItem_list pl.isList h0 (by omega) (by rw [hj]; simpa using ew) fin
  · have hj : (i + (its.toArray.size : Int)).toNat = j := by
      rw [seqIndex_neg (by omega) h4] at h1
      rw [List.size_toArray, ← hl]
      exact Option.some.inj h1
    exact wpAny_getItem_list_neg pl.isList (by omega) (by rw [List.size_toArray] <;> omega) (by omega) (by rw [hj]; simpa using ew) fin
/-- x in t, t a tuple of data of any depth -/
def rInDT (K : PySem.W.Frag) : R2 := fun x y H Q => ∃ d ds, Dp K H x d ∧ Dp K H y (.tuple ds) ∧ SeqAt.shaped d = true ∧ SeqAt.shaped (.tuple ds) = true ∧ Q (.bl (ds.any fun z => PyData.eqv z d)) H
theorem op_inDT (hu : X.A.units + 65 < cLine) : OpR X (compareOp .In) (rInDT X.K) := by
  intro pins s σ H x y v u Q I rx ry h
  obtain ⟨d, ds, hd, he, sd, se, q⟩ := h
  obtain ⟨as, r1⟩ := Dp.reads I d x v hd rx
  obtain ⟨bs, r2⟩ := Dp.reads I (.tuple ds) y u he ry
  exact SeqAt.in_tuple_reads r2 r1 (SeqAt.canLay_of_shaped se) (SeqAt.canLay_of_shaped sd) (room_in_shaped sd hu) ⟨.bl _, H, I, rfl, q⟩
/-- d.update(e), two dicts -/
def rUpdate : V → List V → Hp → VK → Prop := fun x vs H Q => ∃ a b kvs more, x = .ref a ∧ vs = [.ref b] ∧ a ≠ b ∧ H a = some (.dK kvs) ∧ H b = some (.dK more) ∧ kvs.length + more.length ≤ sizeLine ∧ Q .non (upd H a (.dK (mergeK kvs more)))
theorem mt_update : MtR X "dict.update" rUpdate := by
  intro pins s σ H x xs v us Q I rx rxs h
  obtain ⟨a, b, kvs, more, rfl, rfl, hne, ha, hb, hz, q⟩ := h
  cases rx
  obtain ⟨u, rfl, ru⟩ := vals1 rxs
  cases ru
  obtain ⟨z1, lo1, vs1, r1, d1⟩ := dk_of I.hok ha
  obtain ⟨z2, lo2, vs2, r2, d2⟩ := dk_of I.hok hb
  refine call_meetsIn PySem.F.slot_dict_update d1.typeIs PySem.F.entry_dict_update (PySem.F.args_dict_update_2 _ _) (meets_dict_update (mixKind X.prog X.w) a b hne lo2)
    ⟨vs1, vs2, d1, d2, (by rw [← r1.length, ← r2.length]; exact hz), fun h' hm _ hs => ?_⟩
  have rr := KV.merge r2 r1
  have J := d_write (t' := s.toks) (ob := .dK (mergeK kvs more)) I (by rw [ha]; exact True.intro) hs (by obtain ⟨o, _, _, e, _⟩ := hm; exact ⟨o, e⟩)
    (dk_new (Nat.le_trans (length_mergeK more kvs) hz) lo1 rr hm)
  exact ⟨.non, _, J, rfl, q⟩
end
end K21

set_option Elab.async false
set_option linter.all false
set_option maxRecDepth 100000
set_option maxHeartbeats 4000000
namespace K21
open PySem PySem.W PySem.Calls PyProof.Rows PySem.HandSPX
/-! ### class Refused(RuleError): __init__(self, problem): super().__init__(text); self.problem = problem -/
/-- its place in the text -/
def sRef : Stmt := L2.inClass (PySem.Challenge.pw_rulestead_k21_what_is_accepted.main.body.getD 6 (.Pass ⟨0, 0, 0, 0⟩)) 0
def iA : Arguments := L2.defArgs sRef
def iB : List Stmt := L2.defBody sRef
def iS : Scope := L2.defScope sRef
/-- what the written part says of Refused, at C, of its __init__, at fI, of its cell, at cc, and its code, at cda -/
structure RefTxt (prog : Program) (K : Frag) (mg : Str → Option Value) (C : Addr) : Prop where
  gC : mg "Refused" = some (.ref C)
  cls : ∃ nm q N bs bm sn sub ab col dd k0 k1 k2 k3 k5, K.lookup C = some (excClassObj nm q C N bs bm true sn sub ab col dd k0 k1 k2 k3 k5 "ValueError.__new__") ∧ refsVE bm = true
  sa : findIn K (.ref C) "__setattr__" = some (some (.builtin "object.__setattr__"))
  noN : findIn K (.ref C) "problem" = some none
  kC : keepIn K (.ref C) = true
  exC : subIn K (.ref C) (.type "BaseException") = some true
  veC : subIn K (.ref C) (.type "ValueError") = some true
  tyC : typeIn K (.ref C) = some (.type "type")
  mroC : mroIn K C (.ref C) = some true
  supC : ks_superIn K C C "__init__" = some (some (.builtin "ValueError.__init__"))
  opq : nsIn K cStatics "thirdparty.any" = some none
  gS : mg "super" = none
  htop : (prog.main.scope.names.lookup ("super" : Str)).isSome = false
  fn : ∃ (fI cc cda : Addr) (oc ccl cl : Value) (od cdd cld : Option Addr) (doc pm : Value) (an : Option Addr) (ct : Value) (osl ccs csl : Array (Option Value)) (vs : Array Value) (file : Str) (tf : Tok),
    findIn K (.ref C) "__init__" = some (some (.ref fI)) ∧ typeIn K (.ref fI) = some (.type "function") ∧
    K.lookup fI = some ⟨oc, od, .func (fnX "__init__" "Refused.__init__" iA iB iS [("__class__", cc)] .none .none doc pm an (.ref cda) ct), osl⟩ ∧ codeIn K (.ref cda) "Refused.__init__" = true ∧
    K.lookup cda = some ⟨ccl, cdd, .fields vs, ccs⟩ ∧ vs[2]? = some (.str file tf) ∧ ((prog.main.file : Str) == file) = true ∧
    K.lookup cc = some ⟨cl, cld, .cell (some (.ref C)), csl⟩
theorem one_size (v : Value) : [v].length ≤ sizeLine := by
  rw [sizeLine_eq]
  exact (by decide : 1 ≤ 16777216)
/-- what __init__ leaves of a fresh exception at x -/
structure InitEnd (h h' : Heap) (x C dx t1 : Addr) (v : Value) : Prop where
  keep : ∀ b o, b ≠ x → h.get? b = some o → h'.get? b = some o
  obj : h'.get? x = some { cls := .ref C, dict := some dx, data := .fields #[.ref t1, .none, .none, .none, .bool false, .none] }
  dbig : h.objs.size ≤ dx
  dne : dx ≠ x
  ns : h'.Ns1 dx (fun y => if y = "problem" then some v else none)
/-- a made Refused -/
structure OwnMade (h h' : Heap) (e C d : Addr) (v : Value) : Prop where
  keep : ∀ b o, h.get? b = some o → h'.get? b = some o
  new : h.objs.size ≤ e
  obj : ∃ oe vs, h'.get? e = some oe ∧ oe.cls = .ref C ∧ oe.dict = some d ∧ oe.data = .fields vs ∧ vs[1]? = some .none
  dbig : h.objs.size ≤ d
  dne : d ≠ e
  ns : h'.Ns1 d (fun y => if y = "problem" then some v else none)
section
variable {prog : Program} {w : World} {A : Around} {E : Value → Shared → Prop} {h : Heap} {g : Array GenState} {d : Drawn} {t : Nat} {os : OsState}
variable {nm q : Str} {C N : Addr} {bs bm : List Value} {hdct : Bool} {sn : List Str} {sub : List Value} {ab : Bool} {col : Option Bool} {dd : Option Addr} {k0 k1 k2 k3 k5 : Option Value}
/-- the bound ValueError.__init__ called -/
theorem call_mw {u e t0 : Addr} {rest : List Value} {Q : Value → Shared → Prop}
    (hC : h.get? C = some (excClassObj nm q C N bs bm hdct sn sub ab col dd k0 k1 k2 k3 k5 "ValueError.__new__")) (he : h.get? e = some (excO C t0)) (hu : h.get? u = some (kxs_mw "ValueError.__init__" e)) (hrest : rest.length ≤ sizeLine)
    (hq : ∀ h' t1, (∀ b o, b ≠ e → h.get? b = some o → h'.get? b = some o) → h'.get? e = some (excO C t1) → Q .none ⟨h', g, d, t, os⟩) :
    wpAny (model prog w) A (call (.ref u) rest) Q E ⟨h, g, d, t, os⟩ := by
  refine wpAny_call (codeAny_of_tree ?_)
  show wpAny _ A.in1 (callAny (.ref u) ⟨rest, []⟩) _ _ _
  simp only [callAny]
  refine wpAny_bind (wpAny_load hu ?_)
  simp only [kxs_mw, show (Value.type "method-wrapper" == Value.type "method" || Value.type "method-wrapper" == Value.type "builtin_function_or_method" || Value.type "method-wrapper" == Value.type "method-wrapper") = true by decide, if_true]
  refine W.KFB.if_so (by decide) ?_
  refine wpAny_bind (ESX.check_bound F.excBase_ValueError hC he rfl ?_)
  refine wpAny_bind (wpAny_pure (wpAny_pure ?_))
  refine ⟨Code.quiet_builtin _ (by decide +kernel), codeAny_builtin F.excBase_ValueError.initEntry ?_⟩
  rw [Around.under_plainId F.excBase_ValueError.init.plain _]
  wp_walk
  refine hq _ h.objs.size (fun b o hb ho => ?_) ?_
  · rw [Heap.get?_update_other _ _ (Ne.symm hb)]
    exact Heap.get?_push_of_some _ ho
  · rw [Heap.get?_update_self _ (Heap.get?_push_of_some _ he) rfl]
    rfl
end
section
variable {prog : Program} {w : World} {A : Around} {E : Value → Shared → Prop} {R : Result → Shared → Prop} {s : Shared} {K : Frag} {mg mb : Str → Option Value} {C : Addr}
theorem ref_init (T : RefTxt prog K mg C) {fI x t0 : Addr} {v : Value} (hfi : findIn K (.ref C) "__init__" = some (some (.ref fI))) (X : K.In s.heap) (G : s.heap.Ns mainGlobals mg) (B : s.heap.Ns builtinsNs mb) (hb : mb "super" = some (.type "super")) (hlim : s.heap.NoLimit) (hx : s.heap.get? x = some (excO C t0)) (hnx : K.lookup x = none) (hroom : A.depth < recursionLimit)
    (hq : ∀ h' tk dx t1, InitEnd s.heap h' x C dx t1 v → R (.ok (.ret .none)) { s with heap := h', toks := tk }) :
    codeAny (model prog w) A (.call (.ref fI) ⟨[.ref x, v], []⟩) R s := by
  obtain ⟨fI', cc, cda, oc, ccl, cl, od, cdd, cld, doc, pm, an, ct, osl, ccs, csl, vs, file, tf, hfi', tI, ho, hcd, hcode, hvs, hfile, hcell⟩ := T.fn
  have efi : fI' = fI := by
    rw [hfi] at hfi'
    exact (Value.ref.inj (Option.some.inj (Option.some.inj hfi'))).symm
  subst efi
  obtain ⟨nm, q, N, bs, bm, sn, sub, ab, col, dd, k0, k1, k2, k3, k5, hC, hbm⟩ := T.cls
  have hcl : clsIn K C = some { name := nm, bases := bs, mro := .ref C :: bm, ns := N, qualname := q, hasDict := true, slotNames := sn, subclasses := sub, abstract := ab, collection := col, hasDel := false } := by unfold clsIn; rw [hC] <;> rfl
  refine ks_codeAny_call_defAt (fd := fnX "__init__" "Refused.__init__" iA iB iS [("__class__", cc)] .none .none doc pm an (.ref cda) ct) (body := iB) (binds := [("self", .ref x), ("problem", v)]) hroom (X _ _ ho) rfl hlim (codeRec_of X hcd) rfl (BindsTo.of_eq (by first | rfl | with_unfolding_all rfl)) (show ∀ y ∈ iS.names, y.2 ≠ .cell by decide +kernel) (by intro y hy; simp at hy; rcases hy with rfl | rfl <;> rfl) (fun h₀ hns hk₀ => ?_) rfl rfl rfl
  obtain ⟨hp, g, d, tk, os⟩ := s
  have xL : x ≠ hp.objs.size := Nat.ne_of_lt (Heap.lt_size hx)
  have X₀ : K.In h₀ := X.keeps hk₀
  have hx₀ := hk₀ _ _ hx
  have hC₀ := X₀ _ _ hC
  generalize henv : callEnv (fnX "__init__" "Refused.__init__" iA iB iS [("__class__", cc)] .none .none doc pm an (.ref cda) ct) hp.objs.size fI' = env at *
  have es : env.scope = iS := by rw [← henv]; rfl
  have eL : env.locals = hp.objs.size := by rw [← henv]; rfl
  have eg : env.globals = mainGlobals := by rw [← henv]; rfl
  have eb : env.builtins = builtinsNs := by rw [← henv]; rfl
  have ecl : env.cells = ([(PySem.Str.ofString "__class__", cc)] : List (Str × Addr)) := by rw [← henv]; rfl
  have ef : env.func = some fI' := by rw [← henv]; rfl
  have ec : env.code = .ref cda := by rw [← henv]; rfl
  have ek : env.scope.kind = .function := by rw [es]; rfl
  have kSup : env.kindOf "super" = some .globalImplicit := by show env.scope.names.lookup _ = _; rw [es]; rfl
  have kCls : env.kindOf "__class__" = some .free := by show env.scope.names.lookup _ = _; rw [es]; rfl
  have kSelf : env.kindOf "self" = some .local := by show env.scope.names.lookup _ = _; rw [es]; rfl
  have kPr : env.kindOf "problem" = some .local := by show env.scope.names.lookup _ = _; rw [es]; rfl
  have hns' : h₀.Ns env.locals (fun y => ([(PySem.Str.ofString "self", Value.ref x), (PySem.Str.ofString "problem", v)] : List (Str × Value)).reverse.lookup y) := by rw [eL]; exact hns
  have vSelf : (([(PySem.Str.ofString "self", Value.ref x), (PySem.Str.ofString "problem", v)] : List (Str × Value)).reverse.lookup (PySem.Str.ofString "self")) = some (Value.ref x) := by rfl
  have vPr : (([(PySem.Str.ofString "self", Value.ref x), (PySem.Str.ofString "problem", v)] : List (Str × Value)).reverse.lookup (PySem.Str.ofString "problem")) = some v := by rfl
  have oD : ∃ oD cdD, h₀.get? C = some oD ∧ oD.data = .cls cdD := ⟨_, _, hC₀, rfl⟩
  obtain ⟨oD, cdD, hD1, hD2⟩ := oD
  -- super().__init__(text)
  show _root_.PySem.wpAt _ _ _ (execs (_ :: _) _) _ _ _
  refine ks_wpAt_execs_cons (ks_wpAt_Expr_any (ks_wpAt_MethodCall (pl := _) ?_ (by rw [← henv]; rfl)) (by rw [← henv]; rfl) (by rw [← henv]; rfl))
  refine ks_wpAt_super_base (cc := cda) kSup kCls (by decide) ef (X₀ _ _ ho) rfl (ar := ⟨"self", none, ⟨16, 17, 16, 21⟩⟩) rfl ec (X₀ _ _ hcode) rfl hvs hfile T.htop ?_
  refine ks_loadName_global ek kSup (Calls.loadGlobal_builtin (by rw [eg]; exact G.keeps hk₀) T.gS (by rw [eb]; exact B.keeps hk₀) hb ⟨rfl, ?_⟩)
  refine wpAny_loadName_free ek kCls (by rw [ecl]; rfl) ⟨_, X₀ _ _ hcell, rfl⟩ ?_
  refine wpAny_loadName_local ek kSelf hns' vSelf ?_
  refine ks_wpAny_isType_cls hD1 hD2 ⟨rfl, ?_⟩
  refine ks_wpAny_call_super hD1 hD2 hx₀ rfl (fun c e => by cases e) (looks_mroIn X₀ T.mroC) (fun h1 e1 k1' => ?_)
  have X1 : K.In h1 := X₀.keeps k1'
  have hx1 := k1' _ _ hx₀
  have hCn : x ≠ C := by
    rintro rfl
    rw [hC] at hnx
    cases hnx
  have I1 : PySem.W.InstAt h1 x (excO C t0) C none := ⟨hx1, rfl, rfl, trivial⟩
  refine kxs_getMethod kxs_ValueError (D := C) (x := x) (C := C) (l₀ := .ref C :: bm) e1 (looks_opaque X1 T.opq) ?_ rfl X1 (K := K) ?_ (I1.type.andThen (looks_subIn X1 T.veC)) hCn (by decide) ?_
  · exact fun A Q E s k q => wpAny_bind ((looks_clsIn X1 hcl) A _ E s k (wpAny_pure q))
  · have z := T.supC
    unfold ks_superIn at z
    rw [hcl] at z
    exact z
  have k2 : ∀ b o, h1.get? b = some o → (h1.push (kxs_mw "ValueError.__init__" x)).get? b = some o := fun b o e => Heap.get?_push_of_some _ e
  have eu : (h1.push (kxs_mw "ValueError.__init__" x)).get? h1.objs.size = some (kxs_mw "ValueError.__init__" x) := Heap.get?_push_at rfl rfl
  refine kxs_callWith (i := "ValueError.__init__") (x := x) (by rfl) ?_
  show wpAny _ _ (evalArgs (.ref h1.objs.size) true [(false, _)] []) _ _ _
  refine evalArgs_plain (Calls.spliced_cons (Calls.Constant_str (k := 0) (pos := ⟨17, 25, 17, 49⟩) ?_))
  refine Calls.spliced_nil ⟨eu, ?_⟩
  refine call_mw (k2 _ _ (k1' _ _ hC₀)) (k2 _ _ hx1) eu (one_size _) fun h3 t1 k3' hx3 => ?_
  have X3 : K.In h3 := fun a o e => k3' a o (fun z => by rw [z, hnx] at e; cases e) (k2 _ _ (X1 a o e))
  have keep3 : ∀ b o, b ≠ x → hp.get? b = some o → h3.get? b = some o := fun b o hb e => k3' b o hb (k2 _ _ (k1' _ _ (hk₀ b o e)))
  have hn3 : h3.Ns env.locals (fun y => ([(PySem.Str.ofString "self", Value.ref x), (PySem.Str.ofString "problem", v)] : List (Str × Value)).reverse.lookup y) := by
    obtain ⟨oL, es', ep, hL, r⟩ := hns'
    exact ⟨oL, es', ep, k3' _ _ (by rw [eL]; exact Ne.symm xL) (k2 _ _ (k1' _ _ hL)), r⟩
  have sz : hp.objs.size ≤ h3.objs.size := by
    have z : env.locals < h3.objs.size := hn3.lt
    rw [eL] at z
    exact Nat.le_of_lt z
  -- self.problem = problem
  show _root_.PySem.wpAt _ _ _ (execs (_ :: _) _) _ _ _
  refine ks_wpAt_execs_cons (ks_wpAt_Assign_Attr ?_ (by rw [← henv]; rfl))
  refine wpAt_of_wpAny ?_
  refine wpAny_Name (wpAny_loadName_local ek kPr hn3 vPr ?_) (by decide)
  refine wpAny_Name (wpAny_loadName_local ek kSelf hn3 vSelf ?_) (by decide)
  refine set_plain X3 (ox := excO C t1) (od := none) ⟨hx3, rfl, rfl, trivial⟩ T.sa ?_
  refine exc_osa X3 hx3 hcl (show refsVE (.ref C :: bm) = true from hbm) rfl T.noN (fun h4 tk4 dx k4 dn dne hx4 hn4 => ?_)
  refine wpAt_of_wpAny (wpAny_execs_nil ?_)
  exact hq h4 tk4 dx t1 ⟨fun b o hb e => k4 b o hb (keep3 b o hb e), hx4, Nat.le_trans sz dn, dne, hn4⟩
theorem ref_made (T : RefTxt prog K mg C) {v : Value} (X : K.In s.heap) (G : s.heap.Ns mainGlobals mg) (B : s.heap.Ns builtinsNs mb) (hb : mb "super" = some (.type "super")) (hlim : s.heap.NoLimit) (hroom : A.depth + 1 < recursionLimit)
    (hq : ∀ h' tk e d, OwnMade s.heap h' e C d v → R (.ok (.ret (.ref e))) { s with heap := h', toks := tk }) :
    codeAny (model prog w) A (.call (.ref C) ⟨[v], []⟩) R s := by
  obtain ⟨nm, q, N, bs, bm, sn, sub, ab, col, dd, k0, k1, k2, k3, k5, hC, hbm⟩ := T.cls
  obtain ⟨fI, hfi, tI⟩ : ∃ fI, findIn K (.ref C) "__init__" = some (some (.ref fI)) ∧ typeIn K (.ref fI) = some (.type "function") := by
    obtain ⟨fI, cc, cda, oc, ccl, cl, od, cdd, cld, doc, pm, an, ct, osl, ccs, csl, vs, file, tf, hfi, tI, _⟩ := T.fn
    exact ⟨fI, hfi, tI⟩
  obtain ⟨hp, g, dr, tk, os⟩ := s
  have k : ∀ b o, hp.get? b = some o → ((hp.push (kdv_tup [v])).push (excO C hp.objs.size)).get? b = some o := fun b o e => Heap.get?_push_of_some _ (Heap.get?_push_of_some _ e)
  have hget : ((hp.push (kdv_tup [v])).push (excO C hp.objs.size)).get? (hp.objs.size + 1) = some (excO C hp.objs.size) := by heap_get
  have hnx : K.lookup (hp.objs.size + 1) = none := by
    cases e : K.lookup (hp.objs.size + 1) with
    | none => rfl
    | some o =>
      have z : hp.get? (hp.objs.size + 1) = some o := X _ _ e
      exact absurd (Nat.lt_of_succ_lt (Heap.lt_size z)) (Nat.lt_irrefl _)
  refine call_own F.excBase_ValueError (fun X => refsVE_contains X bm hbm) (X _ _ hC) (looks_findIn X hfi) (fun self => bind_fn X self tI) (one_size v) ?_
  refine ref_init (s := ⟨(hp.push (kdv_tup [v])).push (excO C hp.objs.size), g, dr, tk, os⟩) T hfi (X.keeps k) (G.keeps k) (B.keeps k) hb (hlim.keeps k) hget hnx ?_ fun h' tk' dx t1 ⟨k', hx, dn, dne, hns⟩ => ?_
  · show A.depth + 1 < recursionLimit
    exact hroom
  · have old : ∀ b o, hp.get? b = some o → h'.get? b = some o := fun b o e => k' b o (Nat.ne_of_lt (Nat.lt_succ_of_lt (Heap.lt_size e))) (k b o e)
    have z : hp.objs.size + 1 + 1 ≤ dx := by
      first
        | (simpa only [Heap.size_push] using dn)
        | exact dn
        | (have q := dn; rw [Heap.size_push, Heap.size_push] at q; exact q)
    exact ⟨rfl, hq h' tk' (hp.objs.size + 1) dx ⟨old, Nat.le_succ _, ⟨_, _, hx, rfl, rfl, rfl, rfl⟩, Nat.le_trans (Nat.le_trans (Nat.le_succ _) (Nat.le_succ _)) z, dne, hns⟩⟩
end
end K21

set_option Elab.async false
set_option linter.all false
set_option maxRecDepth 100000
set_option maxHeartbeats 4000000
namespace K21
open PySem PySem.Spec PyProof.Rows L2
section
variable {X : Cx} {C : Addr}
/-- Refused(e) -/
def tMkRef (C : Addr) (ta : TA) : L2.St → Hp → XK → Prop := fun σ H Q => ta σ H fun vs H1 => ∃ v, vs = [v] ∧ ∀ d, H1 d = none → Q (.ref C) (some d) (upd H1 d (.xd [(("problem" : Str), v)]))
theorem relO_pr {v : V} {v' : Value} (r : RelV v v') (f : Str) : RelO (List.lookup f [(("problem" : Str), v)]) (if f = "problem" then some v' else none) := by
  by_cases hw : f = "problem"
  · subst hw
    rw [if_pos rfl]
    have q : List.lookup ("problem" : Str) [(("problem" : Str), v)] = some v := by simp [List.lookup]
    rw [q]
    exact r
  · rw [if_neg hw]
    have qw : (f == ("problem" : Str)) = false := by simpa using hw
    have q2 : List.lookup f [(("problem" : Str), v)] = none := by simp [List.lookup, qw]
    rw [q2]
    trivial
theorem boot_super : bootBuiltins "super" = some (.type "super") := by decide +kernel
theorem pmk_ref {a : Expr} {ta : TA} {p pos : Pos} {k : Nat} (T : RefTxt X.prog X.K X.mg C) (hr : Room k X.A) (ha : PA X [a] ta) (hg : Gl X "Refused" := by rfl)
    (he : starEach (a :: []) X.env = (false, eval a X.env) :: starEach [] X.env := by rfl) (hpl : (backTo pos (starEach [] X.env)).any (·.1) = false := by rfl) :
    PMk X (.Call (.Name "Refused" p) [a] [] pos) (tMkRef C ta) := by
  intro pins s σ H Q I h
  refine wpAny_Call_Name_kw (ld_glob I hg T.gC ?_)
  refine PySem.W.callWith_K (h₀ := X.base) I.ok.mod.kin T.kC (thn (ha.run pos pins s σ H _ I h) fun us s1 hh => ?_) he hpl
  obtain ⟨vs, H1, I1, r1, v, ev, q1⟩ := hh
  subst ev
  refine ⟨I1.kIn, ?_⟩
  cases r1 with
  | cons rv rn =>
    rename_i v' us'
    cases rn
    show wpAny _ _ (call (.ref C) [v']) _ _ _
    have hlim := I1.nolimit
    obtain ⟨mb, hB, hBv⟩ := I1.mod.blt
    have G1 := I1.mod.glob.keeps I1.bk
    have B1 := hB.keeps I1.bk
    obtain ⟨hp, g, dr, tk, os⟩ := s1
    refine wpAny_call (ref_made T I1.kIn G1 B1 ((hBv _ (by decide)).trans boot_super) hlim (by have := hr.dp; omega) fun h' tk' e d M => ?_)
    show MkP X pins σ Q (.ref e) ⟨h', g, dr, tk', os⟩
    obtain ⟨oe, fv, hoe, hc, hd, hdat, h1⟩ := M.obj
    have hns := M.ns
    obtain ⟨G', g1, g2⟩ := restrict h' fun b => decide (b ≠ e)
    have gk : ∀ b, b ≠ e → G'.get? b = h'.get? b := fun b hb => g1 b (decide_eq_true hb)
    have ge : G'.get? e = none := g2 e (by simp)
    have old : ∀ b o, hp.get? b = some o → G'.get? b = some o := fun b o q => (gk b (Nat.ne_of_lt (Nat.lt_of_lt_of_le (Heap.lt_size q) M.new))).trans (M.keep b o q)
    have ob : ObjOk X.prog X.w (upd H1 d (.xd [(("problem" : Str), v)])) G' d (.xd [(("problem" : Str), v)]) :=
      ⟨_, hns.at (fun o q => (gk d M.dne).trans q), fun f => relO_pr rv f⟩
    have J : Inv X pins σ (upd H1 d (.xd [(("problem" : Str), v)])) ⟨G', g, dr, tk', os⟩ := I1.laid (t' := tk') old M.dbig ob
    refine ⟨e, oe, fv, ⟨G', g, dr, tk', os⟩, _, .ref C, some d, rfl, J, fun b o q => ?_, ge, hoe, ⟨hc, hd⟩, hdat, h1, ?_, rfl, I1.bare, raises_own T.exC T.tyC, q1 d (I1.hok.fresh M.dbig)⟩
    · by_cases hb : b = e
      · have q' : G'.get? b = some o := q
        rw [hb, ge] at q'; cases q'
      · exact (gk b hb).symm.trans q
    · rw [upd_ne (Ne.symm M.dne)]
      exact I1.hok.fresh M.new
/-- raise Refused(e) -/
def tRaiseRef (C : Addr) (W : WX) (ta : TA) : TS := fun _ σ H => tMkRef C ta σ H fun cls d H' => W cls d σ H'
theorem ps_raiseRef {a : Expr} {ta : TA} {W : WX} {p pos pos2 : Pos} {k : Nat} (hc : X.calm = true) (T : RefTxt X.prog X.K X.mg C) (hr : Room k X.A) (tk : Takes X W) (ha : PA X [a] ta) (hg : Gl X "Refused" := by rfl)
    (he : starEach (a :: []) X.env = (false, eval a X.env) :: starEach [] X.env := by rfl) (hpl : (backTo pos (starEach [] X.env)).any (·.1) = false := by rfl) :
    PS X (.Raise (some (.Call (.Name "Refused" p) [a] [] pos)) none pos2) (tRaiseRef C W ta) := ps_raise hc tk (pmk_ref T hr ha hg he hpl)
end
end K21
/-! ### isinstance(e, c), e the caught error, its class below c: only its type is asked -/
namespace PySem.W
open PySem PySem.Spec PySem.Calls PyProof.Rows
section
variable {K : Frag} {x t c : Value} {h0 : Heap}
theorem k21_yes (X : K.In h0) (ty : ∀ M : Model, Looks M h0 (typeOf x) t) (e : kitOne K t c = some true) : Answers (fun s => s.heap = h0) x c true := by
  rintro dep tk prog w A R ⟨h1, g1, d1, t1, o1⟩ ⟨rfl, fin⟩
  have known := ty (model prog w)
  unfold Builtin.«isinstance.nested»
  refine wpAny_bind (known.at ?_)
  split
  · first
      | exact wpAny_bind (wpAny_rule (wpAny_pure (fin t1)))
      | exact wpAny_bind (wpAny_rule (fin t1))
      | ((repeat lk); exact fin t1)
  · rename_i ne
    have e' := e
    unfold kitOne at e'
    rw [if_neg ne] at e'
    obtain ⟨a1, a2, a3⟩ := kit_cls (M := model prog w) X e'
    refine wpAny_bind (a1.at ?_)
    rw [if_pos (by decide)]
    k_delta "plainIsInstance"
    refine wpAny_bind (wpAny_bind (a2.at ?_))
    simp only [Bool.not_true, Bool.false_eq_true, if_false]
    refine wpAny_bind ((known.andThen a3 : Looks (model prog w) h1 (isInstance x c) true).at ?_)
    first
      | exact wpAny_pure (wpAny_pure (fin t1))
      | (simp only [if_true]; first | exact wpAny_pure (fin t1) | exact wpAny_pure (wpAny_pure (fin t1)))
theorem k21_isi {prog : Program} {w : World} {A : Around} {E : Value → Shared → Prop} {s : Shared} {Q : Value → Shared → Prop} (X : K.In s.heap) (ty : ∀ M : Model, Looks M s.heap (typeOf x) t) (e : kitOne K t c = some true) (hx : x ≠ .builtin "__main__.__loader__#opaque")
    (h : ∀ tk, Q (.bool true) { s with toks := tk }) : wpAny (model prog w) A (call (.builtin "isinstance") [x, c]) Q E s :=
  call_isinstance (S := fun _ R z => z.heap = s.heap ∧ ∀ tk, R (.ok (.ret (.bool true))) { z with toks := tk }) (fun prog w A R z hz => isinstance_outer (k21_yes X ty e 0 _ prog w A R z hz) hx) ⟨rfl, h⟩
end
end PySem.W
namespace K21
open PySem PySem.Spec PyProof.Rows L2
/-- isinstance(e, c) where e has the dict at dd, and its class D is below c -/
def rIsED (K : PySem.W.Frag) (D a dd : Addr) : List V → Hp → VK → Prop := fun xs H Q => (∃ fs, H dd = some (.xd fs)) ∧ ∃ (c : V) (cv : Value), xs = [.ref a, c] ∧ (∀ u, RelV c u → u = cv) ∧ PySem.W.kitOne K (.ref D) cv = some true ∧ Q (.bl true) H
theorem call_isED {X : Cx} {a D dd : Addr} {oe : Obj} {pn : List (Addr × Obj)} (hz : Zc (.ref D) (some dd) oe) (hf : ∃ vs, oe.data = .fields vs) : CallR (X.suite a ((a, oe) :: pn)) (.builtin "isinstance") (rIsED X.K D a dd) := by
  intro pins s σ H xs us Q I r h
  obtain ⟨⟨fs, hfs⟩, c, cv, rfl, hcv, e, q⟩ := h
  obtain ⟨ua, uc, rfl, ra, rc⟩ := vals2 r
  obtain rfl : ua = Value.ref a := ra
  obtain rfl := hcv _ rc
  have hget := (I.pin (a, oe) (List.mem_append_left _ List.mem_cons_self)).1
  refine PySem.W.k21_isi (t := .ref D) I.kIn (fun M B P F z keep k => ?_) e (fun z => nomatch z) fun tk => ⟨.bl true, H, I.kept (t' := tk) fun _ _ z => z, rfl, q⟩
  exact wpAny_typeOf_ref (keep _ _ hget) (by rw [hz.1]; exact k)
end K21

set_option Elab.async false
set_option linter.all false
set_option maxRecDepth 100000
set_option maxHeartbeats 4000000
namespace K21
open PySem PySem.Spec PyProof.Rows L2
/-! ### the text by places -/
def top (i : Nat) : Stmt := PySem.Challenge.pw_rulestead_k21_what_is_accepted.main.body.getD i (.Pass ⟨0, 0, 0, 0⟩)
abbrev sColumns : Stmt := top 8
abbrev sAtom : Stmt := top 9
abbrev sTerms : Stmt := top 10
abbrev sVars : Stmt := top 11
abbrev sLit : Stmt := top 12
abbrev sBody : Stmt := top 13
abbrev sDenial : Stmt := top 14
abbrev sSInit : Stmt := inClass (top 16) 0
abbrev sPut : Stmt := inClass (top 16) 1
abbrev sTidy : Stmt := inClass (top 16) 3
abbrev sItems : Stmt := inClass (top 16) 4
abbrev sHas : Stmt := inClass (top 16) 5
abbrev sNext : Stmt := top 18
abbrev sSame : Stmt := top 19
abbrev sWorth : Stmt := top 20
abbrev sVariable : Stmt := top 21
abbrev sTerm : Stmt := top 22
abbrev sSettled : Stmt := top 23
abbrev sLiteral : Stmt := top 24
abbrev sBinds : Stmt := top 25
abbrev sLBody : Stmt := top 26
abbrev sLoose : Stmt := top 27
abbrev sLitProb : Stmt := top 28
abbrev sBodyProb : Stmt := top 29
abbrev sEach : Stmt := top 30
abbrev sWidths : Stmt := top 31
abbrev sTold : Stmt := top 32
abbrev sLaw : Stmt := top 33
/-! ### heaps -/
/-- all but the object at st stays -/
def Fr (st : Addr) (H H' : Hp) : Prop := ∀ b o, H b = some o → b ≠ st → H' b = some o
theorem Fr.refl {st : Addr} {H : Hp} : Fr st H H := fun _ _ h _ => h
theorem Fr.trans {st : Addr} {H H1 H2 : Hp} (a : Fr st H H1) (b : Fr st H1 H2) : Fr st H H2 := fun c o h n => b c o (a c o h n) n
theorem Fr.same {st : Addr} {H H' : Hp} (a : Same H H') : Fr st H H' := fun c o h _ => a c o h
theorem Same.upd {H : Hp} {p : Addr} {o : HO} (h : H p = none) : Same H (L2.upd H p o) := fun b u e => by rw [upd_ne (ne_of_none e h)]; exact e
theorem Fr.upd {st : Addr} {H : Hp} {p : Addr} {o : HO} (h : H p = none) : Fr st H (L2.upd H p o) := Fr.same (Same.upd h)
/-- the tuples stay -/
def Tu (H H' : Hp) : Prop := ∀ b xs, H b = some (.tup xs) → H' b = some (.tup xs)
theorem Tu.refl {H : Hp} : Tu H H := fun _ _ h => h
theorem Tu.trans {H H1 H2 : Hp} (a : Tu H H1) (b : Tu H1 H2) : Tu H H2 := fun c o h => b c o (a c o h)
theorem Tu.same {H H' : Hp} (a : Same H H') : Tu H H' := fun b xs h => a b _ h
theorem Tu.upd {H : Hp} {p : Addr} {o : HO} (h : H p = none) : Tu H (L2.upd H p o) := Tu.same (Same.upd h)
theorem Tu.set {H : Hp} {p : Addr} {o u : HO} (h : H p = some u) (hu : ∀ xs, u ≠ .tup xs) : Tu H (L2.upd H p o) := fun b xs e => by
  rw [upd_ne (ne_of e h (fun z => hu xs z.symm))]
  exact e
/-! ### the random numbers' state -/
/-- at st: the cells' list (at c), the place, the great number, the seed -/
def StAt (H : Hp) (st c : Addr) : Prop := ∃ (cells : List Int) (i : Nat) (big r : Int), H st = some (.lst [.ref c, .int i, .int big, .int r]) ∧ H c = some (.lst (cells.map V.int)) ∧ 0 ≤ big ∧ 0 ≤ r ∧ r < 2147483647
theorem Fr.tu {st c : Addr} {H H' : Hp} (a : Fr st H H') (s : StAt H st c) : Tu H H' := fun b xs h => by
  obtain ⟨cells, i, big, r, hs, _⟩ := s
  exact a b _ h (ne_of h hs (by intro z; cases z))
theorem StAt.same {H H' : Hp} {st c : Addr} (s : StAt H st c) (e : Same H H') : StAt H' st c := by
  obtain ⟨cells, i, big, r, hs, hc, q⟩ := s
  exact ⟨cells, i, big, r, e _ _ hs, e _ _ hc, q⟩
theorem StAt.ne {H : Hp} {st c : Addr} {i big r : Int} (h : H st = some (.lst [.ref c, .int i, .int big, .int r])) {cells : List Int} (hc : H c = some (.lst (cells.map V.int))) : c ≠ st := by
  rintro rfl
  rw [h] at hc
  have z := Option.some.inj hc
  cases cells with
  | nil => cases z
  | cons a l => cases z
/-- another object is written -/
theorem StAt.put {H : Hp} {st c D : Addr} {o : HO} (s : StAt H st c) (h1 : D ≠ st) (h2 : D ≠ c) : StAt (L2.upd H D o) st c := by
  obtain ⟨cells, i, big, r, hs, hc, q⟩ := s
  exact ⟨cells, i, big, r, by rw [upd_ne (Ne.symm h1)]; exact hs, by rw [upd_ne (Ne.symm h2)]; exact hc, q⟩
/-! ### terms, literals, bodies -/
inductive Wv where
  | int (i : Int)
  | str (x : Str)
def Wv.v : Wv → V
  | .int i => .int i
  | .str x => .str x
def Wv.d : Wv → PyData
  | .int i => .int i
  | .str x => .str x
inductive Tm where
  | var (x : Str)
  | any
  | val (w : Wv)
def Tm.vs : Tm → List V
  | .var x => [.str "variable", .str x]
  | .any => [.str "any"]
  | .val w => [.str "value", w.v]
def Tm.d : Tm → PyData
  | .var x => .tuple [.str "variable", .str x]
  | .any => .tuple [.str "any"]
  | .val w => .tuple [.str "value", w.d]
inductive Lit where
  | fact (r : Str) (ts : List Tm)
  | neg (r : Str) (ts : List Tm)
  | cmp (o : Str) (a b : Tm)
  | is (x o : Str) (a b : Tm)
  | cnt (x r : Str) (ts : List Tm)
def TmAt (H : Hp) (v : V) (t : Tm) : Prop := ∃ a, v = .ref a ∧ H a = some (.tup t.vs)
abbrev TmsAt (H : Hp) : List V → List Tm → Prop := Paired (TmAt H)
/-- a tuple of terms, a list of terms -/
def TsAt (H : Hp) (v : V) (ts : List Tm) : Prop := ∃ a vs, v = .ref a ∧ H a = some (.tup vs) ∧ TmsAt H vs ts ∧ ts.length ≤ 100
def TlAt (H : Hp) (v : V) (ts : List Tm) : Prop := ∃ a vs, v = .ref a ∧ H a = some (.lst vs) ∧ TmsAt H vs ts ∧ ts.length ≤ 100
def LitAt (H : Hp) (v : V) : Lit → Prop
  | .fact r ts => ∃ a tv, v = .ref a ∧ H a = some (.tup [.str "fact", .str r, tv]) ∧ TsAt H tv ts
  | .neg r ts => ∃ a tv, v = .ref a ∧ H a = some (.tup [.str "not", .str r, tv]) ∧ TsAt H tv ts
  | .cmp o t u => ∃ a tv uv, v = .ref a ∧ H a = some (.tup [.str "compare", .str o, tv, uv]) ∧ TmAt H tv t ∧ TmAt H uv u
  | .is x o t u => ∃ a tv uv, v = .ref a ∧ H a = some (.tup [.str "is", .str x, .str o, tv, uv]) ∧ TmAt H tv t ∧ TmAt H uv u
  | .cnt x r ts => ∃ a tv, v = .ref a ∧ H a = some (.tup [.str "count", .str x, .str r, tv]) ∧ TsAt H tv ts
def BodyAt (H : Hp) (v : V) (ls : List Lit) : Prop := ∃ a vs, v = .ref a ∧ H a = some (.tup vs) ∧ Paired (LitAt H) vs ls ∧ ls.length ≤ 100
/-! ### problems -/
inductive Prob where
  | norel (r : Str)
  | width (r : Str)
  | unb (x : Str)
  | any
  | own (x : Str)
  | exd (x : Str)
def Prob.vs : Prob → List V
  | .norel r => [.str "no relation", .str r]
  | .width r => [.str "width", .str r]
  | .unb x => [.str "unbound", .str x]
  | .any => [.str "any"]
  | .own x => [.str "own total", .str x]
  | .exd x => [.str "exists", .str "denial", .str x]
def PrAt (H : Hp) (v : V) : Option Prob → Prop
  | none => v = .non
  | some p => ∃ a, v = .ref a ∧ H a = some (.tup p.vs)
/-- what is wished of the error with a problem -/
def ErrAt (C : Addr) (H : Hp) (E : XK) (p : Prob) : Prop := ∀ (d a : Addr) (H' : Hp), H' d = some (.xd [(("problem" : Str), .ref a)]) → H' a = some (.tup p.vs) → Same H H' → E (.ref C) (some d) H'
/-- a list of names -/
def NmAt (H : Hp) (v : V) (xs : List Str) : Prop := ∃ a, v = .ref a ∧ H a = some (.lst (xs.map V.str))
/-- a new list of names -/
def NewNm (H H' : Hp) (v : V) (xs : List Str) : Prop := ∃ a, v = .ref a ∧ H a = none ∧ H' a = some (.lst (xs.map V.str))
theorem NewNm.nm {H H' : Hp} {v : V} {xs : List Str} (h : NewNm H H' v xs) : NmAt H' v xs := by
  obtain ⟨a, e, _, q⟩ := h
  exact ⟨a, e, q⟩
theorem NewNm.old {H0 H H' : Hp} {v : V} {xs : List Str} (e : Same H0 H) (h : NewNm H H' v xs) : NewNm H0 H' v xs := by
  obtain ⟨a, z, n, q⟩ := h
  exact ⟨a, z, e.free n, q⟩
theorem ErrAt.old {C : Addr} {H0 H : Hp} {E : XK} {p : Prob} (e : Same H0 H) (h : ErrAt C H0 E p) : ErrAt C H E p := fun d a H' h1 h2 h3 => h d a H' h1 h2 (L2.Same.trans e h3)
theorem TmAt.tu {H H' : Hp} (e : Tu H H') {v : V} {t : Tm} (h : TmAt H v t) : TmAt H' v t := by
  obtain ⟨a, rfl, h⟩ := h
  exact ⟨a, rfl, e _ _ h⟩
theorem TmsAt.tu {H H' : Hp} (e : Tu H H') {vs : List V} {ts : List Tm} (h : TmsAt H vs ts) : TmsAt H' vs ts := Paired.mapP h fun _ _ q => q.tu e
theorem TsAt.tu {H H' : Hp} (e : Tu H H') {v : V} {ts : List Tm} (h : TsAt H v ts) : TsAt H' v ts := by
  obtain ⟨a, vs, rfl, h, q, z⟩ := h
  exact ⟨a, vs, rfl, e _ _ h, TmsAt.tu e q, z⟩
theorem LitAt.tu {H H' : Hp} (e : Tu H H') {v : V} {l : Lit} (h : LitAt H v l) : LitAt H' v l := by
  cases l with
  | fact r ts => obtain ⟨a, tv, rfl, h, q⟩ := h; exact ⟨a, tv, rfl, e _ _ h, q.tu e⟩
  | neg r ts => obtain ⟨a, tv, rfl, h, q⟩ := h; exact ⟨a, tv, rfl, e _ _ h, q.tu e⟩
  | cmp o t u => obtain ⟨a, tv, uv, rfl, h, q, q'⟩ := h; exact ⟨a, tv, uv, rfl, e _ _ h, q.tu e, q'.tu e⟩
  | is x o t u => obtain ⟨a, tv, uv, rfl, h, q, q'⟩ := h; exact ⟨a, tv, uv, rfl, e _ _ h, q.tu e, q'.tu e⟩
  | cnt x r ts => obtain ⟨a, tv, rfl, h, q⟩ := h; exact ⟨a, tv, rfl, e _ _ h, q.tu e⟩
theorem BodyAt.tu {H H' : Hp} (e : Tu H H') {v : V} {ls : List Lit} (h : BodyAt H v ls) : BodyAt H' v ls := by
  obtain ⟨a, vs, rfl, h, q, z⟩ := h
  exact ⟨a, vs, rfl, e _ _ h, Paired.mapP q fun _ _ z => z.tu e, z⟩
theorem NmAt.same {H H' : Hp} (e : Same H H') {v : V} {xs : List Str} (h : NmAt H v xs) : NmAt H' v xs := by
  obtain ⟨a, rfl, h⟩ := h
  exact ⟨a, rfl, e _ _ h⟩
theorem nm_ne {H : Hp} {a st c : Addr} {xs : List Str} (h : H a = some (.lst (xs.map V.str))) (s : StAt H st c) : a ≠ st := by
  rintro rfl
  obtain ⟨cells, i, big, r, hs, _⟩ := s
  rw [h] at hs
  have z := Option.some.inj hs
  cases xs with
  | nil => cases z
  | cons a l => cases z
theorem NmAt.fr {H H' : Hp} {st c : Addr} (e : Fr st H H') (s : StAt H st c) {v : V} {xs : List Str} (h : NmAt H v xs) : NmAt H' v xs := by
  obtain ⟨a, rfl, h⟩ := h
  exact ⟨a, rfl, e _ _ h (nm_ne h s)⟩
/-- pairs by place -/
theorem Paired.get {α β : Type} {G : α → β → Prop} {l₁ : List α} {l₂ : List β} (h : Paired G l₁ l₂) {i : Nat} {a : α} (e : l₁[i]? = some a) : ∃ b, l₂[i]? = some b ∧ G a b := paired_get h e
theorem Paired.snoc {α β : Type} {G : α → β → Prop} : ∀ {l₁ : List α} {l₂ : List β} {a : α} {b : β}, Paired G l₁ l₂ → G a b → Paired G (l₁ ++ [a]) (l₂ ++ [b])
  | _, _, _, _, .nil, q => .cons q .nil
  | _, _, _, _, .cons r t, q => .cons r (Paired.snoc t q)
theorem Paired.len {α β : Type} {G : α → β → Prop} {l₁ : List α} {l₂ : List β} (h : Paired G l₁ l₂) : l₁.length = l₂.length := Paired.length h
/-- a def of the text as it stands -/
theorem line4 {n : Nat} (h : n ≤ 1000) : n ≤ sizeLine := Nat.le_trans h (by rw [sizeLine_eq]; decide)
theorem ifT {c : Bool} {A B : Prop} (hc : c = true) (h : A) : if c = true then A else B := by
  rw [if_pos hc]
  exact h
theorem ifF {c : Bool} {A B : Prop} (hc : c = false) (h : B) : if c = true then A else B := by
  rw [hc, if_neg Bool.false_ne_true]
  exact h
theorem few {n : Nat} (h : Nat.ble n 1000 = true := by rfl) : n ≤ sizeLine := line4 (Nat.le_of_ble_eq_true h)
theorem line4' {n : Nat} (h : n ≤ 1000) : n < sizeLine := Nat.lt_of_le_of_lt h (by rw [sizeLine_eq]; decide)
end K21

set_option Elab.async false
set_option linter.all false
set_option maxRecDepth 100000
set_option maxHeartbeats 4000000
namespace K21
open PySem PySem.Spec PyProof.Rows L2
/-! ### what the top has written -/
inductive Nm where
  | columns | atom | terms | vars | lit | body | denial
  | next | same | worth | vari | term | settled | literal | binds | lbody | loose | litprob | bodyprob | each | widths | told | law
  | put | tidy | items
/-- a def of the module -/
structure Glb (K : PySem.W.Frag) (mg : Str → Option Value) (x : Str) (st : Stmt) (ps : List Str) (f : Addr) (fd : FuncData) : Prop where
  F : Fun K x x st f fd
  g : mg x = some (.ref f)
  b : Binds K fd ps []
/-- a method of State -/
structure Mth (K : PySem.W.Frag) (C : Addr) (x qual : Str) (st : Stmt) (ps : List Str) (f : Addr) (fd : FuncData) : Prop where
  F : Fun K x qual st f fd
  m : Meth K C x f
  b : Binds K fd ps []
theorem Glb.kp {K : PySem.W.Frag} {mg : Str → Option Value} {x : Str} {st : Stmt} {ps : List Str} {f : Addr} {fd : FuncData} (G : Glb K mg x st ps f fd) : PySem.W.keepIn K (.ref f) = true := G.F.kp
structure Txt (P : Program) (K : PySem.W.Frag) (mg : Str → Option Value) (A : Nm → Addr) (D : Nm → FuncData) : Prop where
  columns : Glb K mg "columns" sColumns ["state", "relation"] (A .columns) (D .columns)
  atom : Glb K mg "check_atom" sAtom ["state", "relation", "terms"] (A .atom) (D .atom)
  terms : Glb K mg "check_terms" sTerms ["terms", "known", "lets_any"] (A .terms) (D .terms)
  vars : Glb K mg "variables_of" sVars ["terms"] (A .vars) (D .vars)
  lit : Glb K mg "check_literal" sLit ["state", "literal", "known"] (A .lit) (D .lit)
  body : Glb K mg "check_body" sBody ["state", "body"] (A .body) (D .body)
  denial : Glb K mg "check_denial" sDenial ["state", "name", "body"] (A .denial) (D .denial)
  next : Glb K mg "_law_next" sNext ["_law_state", "_law_limit"] (A .next) (D .next)
  same : Glb K mg "_law_same" sSame ["_law_actual", "_law_expected"] (A .same) (D .same)
  worth : Glb K mg "_law_worth" sWorth ["_law_state"] (A .worth) (D .worth)
  vari : Glb K mg "_law_variable" sVariable ["_law_state"] (A .vari) (D .vari)
  term : Glb K mg "_law_term" sTerm ["_law_state", "_law_bound"] (A .term) (D .term)
  settled : Glb K mg "_law_settled" sSettled ["_law_term_here", "_law_bound"] (A .settled) (D .settled)
  literal : Glb K mg "_law_literal" sLiteral ["_law_state", "_law_widths_here", "_law_bound", "_law_careful"] (A .literal) (D .literal)
  binds : Glb K mg "_law_binds" sBinds ["_law_literal_here"] (A .binds) (D .binds)
  lbody : Glb K mg "_law_body" sLBody ["_law_state", "_law_widths_here", "_law_careful", "_law_most"] (A .lbody) (D .lbody)
  loose : Glb K mg "_law_loose" sLoose ["_law_terms", "_law_bound", "_law_lets_any"] (A .loose) (D .loose)
  litprob : Glb K mg "_law_literal_problem" sLitProb ["_law_widths_here", "_law_literal_here", "_law_bound"] (A .litprob) (D .litprob)
  bodyprob : Glb K mg "_law_body_problem" sBodyProb ["_law_widths_here", "_law_body_here"] (A .bodyprob) (D .bodyprob)
  each : Glb K mg "_law_each_once" sEach ["_law_names"] (A .each) (D .each)
  widths : Glb K mg "_law_widths" sWidths ["_law_world"] (A .widths) (D .widths)
  told : Glb K mg "_law_told" sTold ["_law_form", "_law_state", "_law_name", "_law_body_here"] (A .told) (D .told)
  len : mg "len" = none
  int : mg "int" = none
  isi : mg "isinstance" = none
  bool : mg "bool" = none
  str : mg "str" = none
  tuple : mg "tuple" = none
  list : mg "list" = none
  range : mg "range" = none
  sorted : mg "sorted" = none
/-- the class State, at C -/
structure StC (K : PySem.W.Frag) (mg : Str → Option Value) (C : Addr) : Prop where
  cl : Cls K C
  nR : NoAttr K C "relations"
  nF : NoAttr K C "facts"
  nU : NoAttr K C "rules"
  nD : NoAttr K C "denials"
/-! ### a state -/
def flds (dr df du dd : Addr) : List (Str × V) := [("relations", .ref dr), ("facts", .ref df), ("rules", .ref du), ("denials", .ref dd)]
theorem fld_r {a b c d : Addr} : (flds a b c d).lookup ("relations" : Str) = some (.ref a) := by rfl
theorem fld_f {a b c d : Addr} : (flds a b c d).lookup ("facts" : Str) = some (.ref b) := by rfl
theorem fld_u {a b c d : Addr} : (flds a b c d).lookup ("rules" : Str) = some (.ref c) := by rfl
theorem fld_d {a b c d : Addr} : (flds a b c d).lookup ("denials" : Str) = some (.ref d) := by rfl
/-- the rules: name, relation, number of head terms -/
abbrev Rul := Str × Str × Nat
def RuAt (H : Hp) (kv : Key × V) (r : Rul) : Prop := kv.1 = Sum.inr r.1 ∧ ∃ (a ta : Addr) (ba : V) (tvs : List V), kv.2 = .ref a ∧ H a = some (.tup [.str r.2.1, .ref ta, ba]) ∧ H ta = some (.tup tvs) ∧ tvs.length = r.2.2
def relK (rels : List (Str × Nat)) : List (Key × V) := rels.map fun x => (Sum.inr x.1, V.int (x.2 : Nat))
structure StOk (C : Addr) (H : Hp) (p : Addr) (rels : List (Str × Nat)) (rus : List Rul) (dens : List Str) : Prop where
  ex : ∃ (dx dr df du dd : Addr) (ruk : List (Key × V)) (dk : List (Key × V)), H p = some (.ins C dx (flds dr df du dd)) ∧ H dr = some (.dK (relK rels)) ∧ H du = some (.dK ruk) ∧ Paired (RuAt H) ruk rus ∧ H dd = some (.dK dk) ∧ dk.map (·.1) = dens.map Sum.inr
  few : rus.length ≤ 50
  one : ∀ a b : Rul, a ∈ rus → b ∈ rus → a.2.1 = b.2.1 → a = b
  nd : (rus.map (·.1)).Nodup
theorem StOk.same {C : Addr} {H H' : Hp} {p : Addr} {rels : List (Str × Nat)} {rus : List Rul} {dens : List Str} (e : Same H H') (h : StOk C H p rels rus dens) : StOk C H' p rels rus dens := by
  obtain ⟨⟨dx, dr, df, du, dd, ruk, dk, h1, h2, h3, h4, h5, h6⟩, f, o, n⟩ := h
  refine ⟨⟨dx, dr, df, du, dd, ruk, dk, e _ _ h1, e _ _ h2, e _ _ h3, Paired.mapP h4 fun kv r q => ?_, e _ _ h5, h6⟩, f, o, n⟩
  obtain ⟨q1, a, ta, ba, tvs, q2, q3, q4, q5⟩ := q
  exact ⟨q1, a, ta, ba, tvs, q2, e _ _ q3, e _ _ q4, q5⟩
def cols (rels : List (Str × Nat)) (rus : List Rul) (r : Str) : Option Nat := match rels.lookup r with
  | some n => some n
  | none => (rus.find? fun x => decide (x.2.1 = r)).map (·.2.2)
/-! ### what the callers know of the random numbers -/
theorem at_lt {xs : List V} {v : Int} (h0 : 0 ≤ v) (h1 : v < xs.length) : ∃ x, x ∈ xs ∧ atI xs v = some x := by
  obtain ⟨n, rfl⟩ : ∃ n : Nat, v = n := ⟨v.toNat, by omega⟩
  have hn : n < xs.length := by omega
  exact ⟨xs[n], List.getElem_mem hn, atI_nat (List.getElem?_eq_getElem hn)⟩
theorem StAt.new {H : Hp} {st c p : Addr} {o : HO} (S : StAt H st c) (hp : H p = none) : StAt (L2.upd H p o) st c := S.same (Same.upd hp)
theorem StAt.no {H : Hp} {st c p : Addr} (S : StAt H st c) (hp : H p = none) : p ≠ st := by
  rintro rfl
  obtain ⟨cells, i, big, r, hs, _⟩ := S
  rw [hp] at hs
  cases hs
theorem StAt.noc {H : Hp} {st c p : Addr} (S : StAt H st c) (hp : H p = none) : p ≠ c := by
  rintro rfl
  obtain ⟨cells, i, big, r, hs, hc, _⟩ := S
  rw [hp] at hc
  cases hc
/-- a new tuple or list -/
theorem Fr.new {st p : Addr} {H H1 : Hp} {o : HO} (e : Fr st H H1) (hp : H1 p = none) : Fr st H (L2.upd H1 p o) := e.trans (Fr.upd hp)
theorem Same.new {p : Addr} {H H1 : Hp} {o : HO} (e : Same H H1) (hp : H1 p = none) : Same H (L2.upd H1 p o) := L2.Same.trans e (Same.upd hp)
def isStr : V → Bool
  | .str _ => true
  | _ => false
theorem isStr_ok {x : V} (h : isStr x = true) : ∃ z, x = .str z := by
  cases x <;> first | exact ⟨_, rfl⟩ | cases h
def isWv : V → Bool
  | .str _ => true
  | .int _ => true
  | _ => false
theorem isWv_ok {x : V} (h : isWv x = true) : ∃ z : Wv, x = z.v := by
  cases x <;> first | exact ⟨.str _, rfl⟩ | exact ⟨.int _, rfl⟩ | cases h
theorem dec_str2 {a b : Str} : decide (V.str a = V.str b) = decide (a = b) := by
  by_cases h : a = b
  · subst h; simp
  · rw [decide_eq_false h, decide_eq_false (fun z => h (V.str.inj z))]
/-- in a list of names -/
theorem inV_strs (x : Str) (xs : List Str) : inV (.str x) (xs.map V.str) = decide (x ∈ xs) := by
  induction xs with
  | nil => rfl
  | cons y ys ih =>
    have e : inV (.str x) ((y :: ys).map V.str) = ((y == x) || inV (.str x) (ys.map V.str)) := rfl
    rw [e, ih]
    by_cases h : x = y
    · subst h
      simp
    · have h' : (y == x) = false := by simpa using fun z : y = x => h z.symm
      rw [h']
      simp [h]
theorem flat_strs (xs : List Str) : (xs.map V.str).all flatV = true := by
  induction xs with
  | nil => rfl
  | cons y ys ih => exact ih
end K21

set_option Elab.async false
set_option linter.all false
set_option maxRecDepth 100000
set_option maxHeartbeats 4000000
namespace K21
open PySem PySem.Spec PyProof.Rows L2
/-- _law_next: some number below the limit -/
def spNext : Sp := fun vs H Q _ => ∃ (st c : Addr) (n : Int), vs = [.ref st, .int n] ∧ 0 < n ∧ n ≤ 100 ∧ StAt H st c ∧ ∀ (v : Int) (H' : Hp), 0 ≤ v → v < n → StAt H' st c → Fr st H H' → Q (.int v) H'
section
variable {P : Program} {w : World} {K : PySem.W.Frag} {mg : Str → Option Value} {base : Heap} {A : Nm → Addr} {D : Nm → FuncData}
theorem scNext : FnScope ["_law_state", "_law_limit", "_law_cell", "_law_value"] ["_law_state", "_law_limit"] (defScope sNext) := ⟨rfl, rfl, rfl, by decide +kernel, rfl, by decide +kernel, by decide +kernel⟩
theorem fr_set {st : Addr} {H H0 : Hp} {o : HO} (e : Fr st H0 H) : Fr st H0 (L2.upd H st o) := fun b u h n => by
  rw [upd_ne n]
  exact e b u h n
theorem pow18 : (10 : Int) ^ (18 : Int).toNat = 1000000000000000000 := by decide +kernel
theorem ok_next (T : Txt P K mg A D) : FnOk P w K mg base CX0 1 (A .next) (D .next) ["_law_state", "_law_limit"] spNext := by
  refine T.next.F.ok scNext (fun vs H Q E h => ?_) (fun cdv Ar outer s H vs Q E hr h => ?_)
  · obtain ⟨st, c, n, rfl, _⟩ := h
    rfl
  · obtain ⟨st, c, n, rfl, hn0, hn1, S, k⟩ := h
    refine ⟨_, C8.pss_cut (ps_if (PW.pt (pw_and (pt_cmpR op_eq (pe_ix ix_list (pv 0) pe_int (fun _ _ => rfl)) pe_int (nomark _))
          (pw_and1 (pt_cmpR op_lt (pe_ix ix_list (pv 0) pe_int (fun _ _ => rfl)) (pe_callB call_len_seq (by rfl) T.len PySem.boot_len (pa_cons (pe_ix ix_list (pv 0) pe_int (fun _ _ => rfl)) pa_nil)) (nomark _)))))
        (pss_cons (ps_set (i := 2) scNext.nd rfl (Or.inl rfl) (pe_ix ix_list (pe_ix ix_list (pv 0) pe_int (fun _ _ => rfl)) (pe_ix ix_list (pv 0) pe_int (fun _ _ => rfl)) (fun _ _ => rfl)))
        (pss_cons (ps_augS (pv 0) pe_int get_list pe_int ip_add set_list)
        (pss_one (ps_if (pt_cmpR op_ge (pv 2) (pe_op op_pow pe_int pe_int) (nomark _))
          (pss_one (ps_asg (pv 2) (pg_sub (pv 0) pe_int set_list)))
          (pss_one (ps_asg (pe_op op_mod (pe_callTy call_int1 (by rfl) T.int (by decide +kernel) (pa_cons (pe_op op_add (pe_op op_add (pe_op op_mul (pe_ix ix_list (pv 0) pe_int (fun _ _ => rfl)) pe_int) (pe_op op_mod (pe_callTy call_int1 (by rfl) T.int (by decide +kernel) (pa_cons (pv 2) pa_nil)) pe_int)) pe_int) pa_nil)) pe_int) (pg_sub (pv 0) pe_int set_list)))))))
        pss_nil)
      (C8.pss_cut (ps_if (pt_cmpR op_gt (pe_ix ix_list (pv 0) pe_int (fun _ _ => rfl)) pe_int (nomark _))
        (pss_cons (ps_set (i := 3) scNext.nd rfl (Or.inl rfl) (pe_op op_mod (pe_callTy call_int1 (by rfl) T.int (by decide +kernel) (pa_cons (pe_ix ix_list (pv 0) pe_int (fun _ _ => rfl)) pa_nil)) (pv 1)))
        (pss_cons (ps_asg (pe_op op_fdiv (pe_ix ix_list (pv 0) pe_int (fun _ _ => rfl)) (pv 1)) (pg_sub (pv 0) pe_int set_list))
        (pss_one (ps_ret (pv 3)))))
        pss_nil)
      (pss_cons (ps_asg (pe_op op_mod (pe_callTy call_int1 (by rfl) T.int (by decide +kernel) (pa_cons (pe_op op_add (pe_op op_mul (pe_ix ix_list (pv 0) pe_int (fun _ _ => rfl)) pe_int) pe_int) pa_nil)) pe_int) (pg_sub (pv 0) pe_int set_list))
      (pss_one (ps_ret (pe_op op_mod (pe_callTy call_int1 (by rfl) T.int (by decide +kernel) (pa_cons (pe_op op_fdiv (pe_ix ix_list (pv 0) pe_int (fun _ _ => rfl)) pe_int) pa_nil)) (pv 1)))))), ?_⟩
    refine ⟨fun σ H' => ∃ v2 : Option V, σ = [some (.ref st), some (.int n), v2, none] ∧ StAt H' st c ∧ Fr st H H', ?_, ?_⟩
    · obtain ⟨cells, i, big, r, hs, hc, h1, h2, h3⟩ := id S
      refine ⟨_, rfl, st, _, 2, _, rfl, rfl, SqL.of hs, by rfl, rfl, _, rfl, ite2 (fun e => ?_) (fun e => ⟨_, rfl, S, Fr.refl⟩)⟩
      refine ⟨_, rfl, st, _, 1, _, rfl, rfl, SqL.of hs, by rfl, _, rfl, st, _, 0, _, rfl, rfl, SqL.of hs, by rfl, c, _, rfl, .inl (SqL.of hc), _, _, rfl, rfl, _, rfl, ite2 (fun e2 => ?_) (fun e2 => ⟨_, rfl, S, Fr.refl⟩)⟩
      have hi : i < cells.length := by
        have z := of_decide_eq_true e2
        rw [List.length_map] at z
        omega
      have hci : (cells.map V.int)[i]? = some (V.int cells[i]) := by
        rw [List.getElem?_map, List.getElem?_eq_getElem hi]
        rfl
      have hne := StAt.ne hs hc
      refine ⟨_, rfl, st, _, 0, _, rfl, rfl, SqL.of hs, by rfl, _, rfl, st, _, 1, _, rfl, rfl, SqL.of hs, by rfl, c, _, (i : Int), _, rfl, rfl, SqL.of hc, atI_nat hci, ?_⟩
      refine ⟨_, rfl, st, _, 1, _, rfl, rfl, SqL.of hs, by rfl, (i : Int), 1, rfl, rfl, st, _, 1, 1, rfl, rfl, hs, by rfl, ?_⟩
      have hc' : ∀ o, (L2.upd H st o) c = some (.lst (cells.map V.int)) := fun o => by rw [upd_ne hne]; exact hc
      refine ⟨_, rfl, _, _, rfl, rfl, ⟨by decide, by decide, by decide⟩, _, _, rfl, rfl, _, rfl, ite2 (fun e3 => ?_) (fun e3 => ?_)⟩
      · -- the great number
        refine ⟨_, rfl, _, rfl, st, _, 2, 2, rfl, rfl, upd_same, by rfl, ?_⟩
        have z := of_decide_eq_true e3
        rw [pow18] at z
        refine ⟨_, rfl, ⟨cells, i + 1, cells[i], r, ?_, by rw [upd_ne hne]; exact hc' _, by omega, h2, h3⟩, fr_set (fr_set Fr.refl)⟩
        rw [upd_same]
        rfl
      · refine ⟨_, rfl, st, _, 3, _, rfl, rfl, SqL.of upd_same, by rfl, _, _, rfl, rfl, .inr ⟨by decide, by decide⟩, _, rfl, .inl ⟨_, rfl, _, _, rfl, rfl, by show (0 : Int) < 2147483647; decide, _, _, rfl, rfl, _, _, rfl, rfl, ?_⟩⟩
        refine .inl ⟨_, rfl, _, _, rfl, rfl, by show (0 : Int) < 2147483647; decide, _, rfl, st, _, 3, 3, rfl, rfl, upd_same, by rfl, ?_⟩
        refine ⟨_, rfl, ⟨cells, i + 1, big, _, by rw [upd_same]; rfl, by rw [upd_ne hne]; exact hc' _, h1, Int.emod_nonneg _ (by decide), Int.emod_lt_of_pos _ (by decide)⟩, fr_set (fr_set Fr.refl)⟩
    · rintro σ1 H1 ⟨v2, rfl, S1, e1⟩
      refine ⟨fun σ H' => ∃ v2 : Option V, σ = [some (.ref st), some (.int n), v2, none] ∧ StAt H' st c ∧ Fr st H H', ?_, ?_⟩
      · obtain ⟨cells, i, big, r, hs, hc, h1, h2, h3⟩ := id S1
        have hne := StAt.ne hs hc
        refine ⟨_, rfl, st, _, 2, _, rfl, rfl, SqL.of hs, by rfl, _, _, rfl, rfl, _, rfl, ite2 (fun e => ?_) (fun e => ⟨_, rfl, S1, e1⟩)⟩
        refine ⟨_, rfl, st, _, 2, _, rfl, rfl, SqL.of hs, by rfl, .inl ⟨_, rfl, _, rfl, _, _, rfl, rfl, hn0, ?_⟩⟩
        refine ⟨_, rfl, st, _, 2, _, rfl, rfl, SqL.of hs, by rfl, _, rfl, _, _, rfl, rfl, ⟨hn0, by omega⟩, _, rfl, st, _, 2, 2, rfl, rfl, hs, by rfl, _, rfl, ?_⟩
        exact k _ _ (Int.emod_nonneg _ (by omega)) (Int.emod_lt_of_pos _ hn0) ⟨cells, i, _, r, by rw [upd_same]; rfl, by rw [upd_ne hne]; exact hc, Int.ediv_nonneg h1 (by omega), h2, h3⟩ (fr_set e1)
      · rintro σ2 H2 ⟨v3, rfl, S2, e2⟩
        obtain ⟨cells, i, big, r, hs, hc, h1, h2, h3⟩ := id S2
        have hne := StAt.ne hs hc
        refine ⟨_, rfl, st, _, 3, _, rfl, rfl, SqL.of hs, by rfl, _, _, rfl, rfl, .inr ⟨by decide, by decide⟩, _, _, rfl, rfl, .inl ⟨_, rfl, _, _, rfl, rfl, by show (0 : Int) < 2147483647; decide, _, rfl, st, _, 3, 3, rfl, rfl, hs, by rfl, ?_⟩⟩
        refine ⟨_, rfl, st, _, 3, _, rfl, rfl, SqL.of upd_same, by rfl, _, _, rfl, rfl, ⟨by decide, by decide⟩, .inl ⟨_, rfl, _, rfl, _, _, rfl, rfl, hn0, ?_⟩⟩
        exact k _ _ (Int.emod_nonneg _ (by omega)) (Int.emod_lt_of_pos _ hn0) ⟨cells, i, big, _, by rw [upd_same]; rfl, by rw [upd_ne hne]; exact hc, h1, Int.emod_nonneg _ (by decide), Int.emod_lt_of_pos _ (by decide)⟩ (fr_set e2)
end
end K21

set_option Elab.async false
set_option linter.all false
set_option maxRecDepth 100000
set_option maxHeartbeats 4000000
namespace K21
open PySem PySem.Spec PyProof.Rows L2
def spVariable : Sp := fun vs H Q _ => ∃ (st c : Addr), vs = [.ref st] ∧ StAt H st c ∧ ∀ (x : Str) (H' : Hp), StAt H' st c → Fr st H H' → Q (.str x) H'
def spWorth : Sp := fun vs H Q _ => ∃ (st c : Addr), vs = [.ref st] ∧ StAt H st c ∧ ∀ (x : Wv) (H' : Hp), StAt H' st c → Fr st H H' → Q x.v H'
def spTerm : Sp := fun vs H Q _ => ∃ (st c : Addr) (b : V) (xs : List Str), vs = [.ref st, b] ∧ NmAt H b xs ∧ xs.length ≤ 100 ∧ StAt H st c ∧ ∀ (v : V) (t : Tm) (H' : Hp), TmAt H' v t → StAt H' st c → Fr st H H' → Q v H'
def spSettled : Sp := fun vs H Q _ => ∃ (v b : V) (t : Tm) (xs : List Str), vs = [v, b] ∧ TmAt H v t ∧ NmAt H b xs ∧ ∀ (v' : V) (t' : Tm) (H' : Hp), TmAt H' v' t' → Same H H' → Q v' H'
section
variable {P : Program} {w : World} {K : PySem.W.Frag} {mg : Str → Option Value} {base : Heap} {A : Nm → Addr} {D : Nm → FuncData}
theorem scVariable : FnScope ["_law_state"] ["_law_state"] (defScope sVariable) := ⟨rfl, rfl, rfl, by decide +kernel, rfl, by decide +kernel, by decide +kernel⟩
theorem ok_variable (T : Txt P K mg A D) : FnOk P w K mg base CX0 2 (A .vari) (D .vari) ["_law_state"] spVariable := by
  have GN : FnOk P w K mg base CX0 1 _ _ _ spNext := ok_next T
  refine T.vari.F.ok scVariable (fun vs H Q E h => ?_) (fun cdv Ar outer s H vs Q E hr h => ?_)
  · obtain ⟨st, c, rfl, _⟩ := h
    rfl
  · obtain ⟨st, c, rfl, S, k⟩ := h
    refine ⟨_, pss_one (ps_ret (pe_ix ix_list (pe_lst (pa_cons pe_str (pa_cons pe_str (pa_cons pe_str (pa_cons pe_str pa_nil))))) (pe_call GN hr (by rfl) T.next.g T.next.kp T.next.b .nil pass0 (pa_cons (pv 0) (pa_cons pe_int pa_nil))) (fun _ _ => rfl))), ?_⟩
    refine ⟨few, fun p hp => ?_⟩
    refine ⟨_, rfl, st, c, _, rfl, by decide, by decide, S.new hp, fun v H' h0 h1 S' e' => ?_⟩
    obtain ⟨x, hx, ha⟩ := at_lt (xs := [.str "x", .str "y", .str "z", .str "n_1"]) h0 h1
    obtain ⟨z, rfl⟩ := isStr_ok (List.all_eq_true.mp (show [V.str "x", .str "y", .str "z", .str "n_1"].all isStr = true from rfl) x hx)
    exact ⟨p, _, v, _, rfl, rfl, SqL.of (e' _ _ upd_same (S.no hp)), ha, k _ _ S' ((Fr.upd hp).trans e')⟩
theorem scWorth : FnScope ["_law_state"] ["_law_state"] (defScope sWorth) := ⟨rfl, rfl, rfl, by decide +kernel, rfl, by decide +kernel, by decide +kernel⟩
theorem ok_worth (T : Txt P K mg A D) : FnOk P w K mg base CX0 2 (A .worth) (D .worth) ["_law_state"] spWorth := by
  have GN : FnOk P w K mg base CX0 1 _ _ _ spNext := ok_next T
  refine T.worth.F.ok scWorth (fun vs H Q E h => ?_) (fun cdv Ar outer s H vs Q E hr h => ?_)
  · obtain ⟨st, c, rfl, _⟩ := h
    rfl
  · obtain ⟨st, c, rfl, S, k⟩ := h
    refine ⟨_, pss_one (ps_ret (pe_ix ix_list (pe_lst (pa_cons pe_int (pa_cons pe_int (pa_cons pe_int (pa_cons (pe_un un_neg pe_int) (pa_cons pe_int (pa_cons pe_str (pa_cons pe_str (pa_cons pe_str
      (pa_cons (pe_op op_sub (pe_op op_pow pe_int pe_int) pe_int) (pa_cons pe_int (pa_cons pe_str (pa_cons pe_str (pa_cons pe_str (pa_cons pe_str (pa_cons (pe_un un_neg pe_int) (pa_cons pe_int pa_nil)))))))))))))))))
      (pe_call GN hr (by rfl) T.next.g T.next.kp T.next.b .nil pass0 (pa_cons (pv 0) (pa_cons pe_int pa_nil))) (fun _ _ => rfl))), ?_⟩
    refine ⟨_, rfl, _, _, rfl, rfl, ⟨by decide, by decide, by decide⟩, _, _, rfl, rfl, _, rfl, ?_⟩
    refine ⟨few, fun p hp => ?_⟩
    refine ⟨_, rfl, st, c, _, rfl, by decide, by decide, S.new hp, fun v H' h0 h1 S' e' => ?_⟩
    have hp' := e' _ _ (upd_same (H := H) (a := p)) (S.no hp)
    generalize hl : ([V.int 0, _, _, _, _, _, _, _, _, _, _, _, _, _, _, _] : List V) = l at hp'
    obtain ⟨x, hx, ha⟩ := at_lt (xs := l) h0 (by rw [← hl]; exact h1)
    obtain ⟨z, rfl⟩ := isWv_ok (List.all_eq_true.mp (show l.all isWv = true by rw [← hl]; rfl) x hx)
    exact ⟨p, _, v, _, rfl, rfl, SqL.of hp', ha, k _ _ S' ((Fr.upd hp).trans e')⟩
theorem scTerm : FnScope ["_law_state", "_law_bound", "_law_pick"] ["_law_state", "_law_bound"] (defScope sTerm) := ⟨rfl, rfl, rfl, by decide +kernel, rfl, by decide +kernel, by decide +kernel⟩
theorem ok_term (T : Txt P K mg A D) : FnOk P w K mg base CX0 3 (A .term) (D .term) ["_law_state", "_law_bound"] spTerm := by
  have GN : FnOk P w K mg base CX0 1 _ _ _ spNext := ok_next T
  have GW : FnOk P w K mg base CX0 2 _ _ _ spWorth := ok_worth T
  have GV : FnOk P w K mg base CX0 2 _ _ _ spVariable := ok_variable T
  refine T.term.F.ok scTerm (fun vs H Q E h => ?_) (fun cdv Ar outer s H vs Q E hr h => ?_)
  · obtain ⟨st, c, b, xs, rfl, _⟩ := h
    rfl
  · obtain ⟨st, c, b, xs, rfl, hb, hz, S, k⟩ := h
    have hr1 := hr.mono (j := 1) (by decide)
    refine ⟨_, pss_cons (ps_set (i := 2) scTerm.nd rfl (Or.inl rfl) (pe_call GN hr1 (by rfl) T.next.g T.next.kp T.next.b .nil pass0 (pa_cons (pv 0) (pa_cons pe_int pa_nil))))
      (pss_cons (ps_if (PW.pt (pw_and (pt_cmpR op_lt (pv 2) pe_int (nomark _)) (pw_and1 (pt_cmpR op_gt (pe_callB call_len_seq (by rfl) T.len PySem.boot_len (pa_cons (pv 1) pa_nil)) pe_int (nomark _)))))
        (pss_one (ps_ret (pe_tup (pa_cons pe_str (pa_cons (pe_ix ix_list (pv 1) (pe_call GN hr1 (by rfl) T.next.g T.next.kp T.next.b .nil pass0 (pa_cons (pv 0) (pa_cons (pe_callB call_len_seq (by rfl) T.len PySem.boot_len (pa_cons (pv 1) pa_nil)) pa_nil))) (fun _ _ => rfl)) pa_nil)))))
        pss_nil)
      (pss_cons (ps_if (pt_cmpR op_lt (pv 2) pe_int (nomark _))
        (pss_one (ps_ret (pe_tup (pa_cons pe_str (pa_cons (pe_call GV hr (by rfl) T.vari.g T.vari.kp T.vari.b .nil pass0 (pa_cons (pv 0) pa_nil)) pa_nil)))))
        pss_nil)
      (pss_one (ps_ret (pe_ix ix_list (pe_lst (pa_cons (pe_tup (pa_cons pe_str pa_nil)) (pa_cons (pe_tup (pa_cons pe_str (pa_cons (pe_call GW hr (by rfl) T.worth.g T.worth.kp T.worth.b .nil pass0 (pa_cons (pv 0) pa_nil)) pa_nil))) pa_nil)))
        (pe_callTy call_int1 (by rfl) T.int (by decide +kernel) (pa_cons (pe_cmpR op_lt (pv 2) pe_int (nomark _)) pa_nil)) (fun _ _ => rfl)))))), ?_⟩
    refine ⟨_, rfl, st, c, _, rfl, by decide, by decide, S, fun pick H1 h0 h1 S1 e1 => ?_⟩
    have hb1 : NmAt H1 b xs := hb.fr e1 S
    obtain ⟨a, rfl, ha⟩ := id hb1
    have third : ∀ D : Ends, (∀ v t H', TmAt H' v t → StAt H' st c → Fr st H H' → D.rt v H') → (tSeq (tIfS (tTest (tOp (rI0 fun i j => .bl (decide (i < j))) (tVar 2) (tC (.int 7)))) (tRet (tTup (tCons (tC (.str "variable")) (tCons (tCall spVariable [] E0 (tCons (tVar 0) tNil)) tNil)))) tNext)
        (tRet (tOp (rIxL K) (tLst (tCons (tTup (tCons (tC (.str "any")) tNil)) (tCons (tTup (tCons (tC (.str "value")) (tCons (tCall spWorth [] E0 (tCons (tVar 0) tNil)) tNil))) tNil)))
          (tCB (fun xs H Q => (∃ i, xs = [.int i] ∧ Q (.int i) H) ∨ ∃ k, xs = [.bl k] ∧ Q (.int (if k then 1 else 0)) H) (tCons (tOp (rI0 fun i j => .bl (decide (i < j))) (tVar 2) (tC (.int 9))) tNil))))) D [some (.ref st), some (.ref a), some (.int pick)] H1 := by
      intro D k
      refine ⟨_, rfl, _, _, rfl, rfl, _, rfl, ite2 (fun e => ?_) (fun e => ?_)⟩
      · refine ⟨_, rfl, st, c, rfl, S1, fun x H2 S2 e2 => ⟨few, fun p hp => ?_⟩⟩
        exact k _ (.var x) _ ⟨p, rfl, upd_same⟩ (S2.new hp) ((e1.trans e2).new hp)
      · refine ⟨few, fun p hp => ?_⟩
        refine ⟨_, rfl, st, c, rfl, S1.new hp, fun x H2 S2 e2 => ⟨few, fun q hq => ⟨few, fun l hl => ?_⟩⟩⟩
        refine ⟨_, rfl, _, _, rfl, rfl, .inr ⟨_, rfl, ?_⟩⟩
        have hp2 : H2 p = some (.tup [.str "any"]) := e2 _ _ upd_same (S1.no hp)
        have hq2 : L2.upd H2 q (.tup [.str "value", x.v]) q = some (.tup [.str "value", x.v]) := upd_same
        have fin : Fr st H (L2.upd (L2.upd H2 q (.tup [.str "value", x.v])) l (.lst [.ref p, .ref q])) := (((e1.new hp).trans e2).new hq).new hl
        cases decide (pick < 9) with
        | true => exact ⟨l, _, _, _, rfl, rfl, SqL.of upd_same, by rfl, k _ (.val x) _ ⟨q, rfl, by rw [upd_ne (ne_of_none hq2 hl)]; exact hq2⟩ ((S2.new hq).new hl) fin⟩
        | false => exact ⟨l, _, _, _, rfl, rfl, SqL.of upd_same, by rfl, k _ .any _ ⟨p, rfl, Same.upd hl _ _ (Same.upd hq _ _ hp2)⟩ ((S2.new hq).new hl) fin⟩
    refine ⟨_, rfl, _, _, rfl, rfl, _, rfl, ite2 (fun e => ?_) (fun e => ?_)⟩
    · refine ⟨_, rfl, a, _, rfl, .inl (SqL.of ha), _, _, rfl, rfl, _, rfl, ite2 (fun e2 => ?_) (fun e2 => ?_)⟩
      · have hpos := of_decide_eq_true e2
        rw [List.length_map] at hpos
        refine ⟨_, rfl, _, rfl, _, rfl, a, _, rfl, .inl (SqL.of ha), st, c, _, rfl, by rw [List.length_map]; exact hpos, by rw [List.length_map]; omega, S1, fun v H2 h2 h3 S2 e2 => ?_⟩
        have ha2 := e2 _ _ ha (nm_ne ha S1)
        obtain ⟨x, hx, hxa⟩ := at_lt (xs := xs.map V.str) h2 h3
        obtain ⟨z, _, rfl⟩ := List.mem_map.mp hx
        refine ⟨a, _, v, _, rfl, rfl, SqL.of ha2, hxa, few, fun p hp => ?_⟩
        exact k _ (.var z) _ ⟨p, rfl, upd_same⟩ (S2.new hp) ((e1.trans e2).new hp)
      · exact third _ k
    · exact third _ k
theorem scSettled : FnScope ["_law_term_here", "_law_bound"] ["_law_term_here", "_law_bound"] (defScope sSettled) := ⟨rfl, rfl, rfl, by decide +kernel, rfl, by decide +kernel, by decide +kernel⟩
theorem ok_settled (T : Txt P K mg A D) : FnOk P w K mg base CX0 1 (A .settled) (D .settled) ["_law_term_here", "_law_bound"] spSettled := by
  refine T.settled.F.ok scSettled (fun vs H Q E h => ?_) (fun cdv Ar outer s H vs Q E hr h => ?_)
  · obtain ⟨v, b, t, xs, rfl, _⟩ := h
    rfl
  · obtain ⟨v, b, t, xs, rfl, ht, hb, k⟩ := h
    obtain ⟨a, rfl, ha⟩ := id ht
    obtain ⟨l, rfl, hl⟩ := id hb
    refine ⟨_, pss_cons (ps_if (PW.pt (pw_or (pt_cmpR op_eq (pe_ix ix_tup (pv 0) pe_int (fun _ _ => rfl)) pe_str (nomark _))
        (pw_or1 (PW.pt (pw_and (pt_cmpR op_eq (pe_ix ix_tup (pv 0) pe_int (fun _ _ => rfl)) pe_str (nomark _)) (pw_and1 (pt_cmpR op_notIn_seq (pe_ix ix_tup (pv 0) pe_int (fun _ _ => rfl)) (pv 1) (by rfl))))))))
        (pss_one (ps_ret (pe_tup (pa_cons pe_str (pa_cons pe_int pa_nil)))))
        pss_nil)
      (pss_one (ps_ret (pv 0))), ?_⟩
    have made : ∀ p, H p = none → Q (.ref p) (L2.upd H p (.tup [.str "value", .int 1])) := fun p hp => k _ (.val (.int 1)) _ ⟨p, rfl, upd_same⟩ (Same.upd hp)
    have kept : Q (.ref a) H := k _ t _ ht (L2.Same.refl H)
    cases t with
    | any =>
      refine ⟨_, rfl, a, _, _, _, rfl, rfl, SqT.of ha, by rfl, rfl, _, rfl, ?_⟩
      exact ifT (by decide +kernel) ⟨few, made⟩
    | val u =>
      refine ⟨_, rfl, a, _, _, _, rfl, rfl, SqT.of ha, by rfl, rfl, _, rfl, ifF (by decide +kernel) ?_⟩
      refine ⟨_, rfl, a, _, _, _, rfl, rfl, SqT.of ha, by rfl, rfl, _, rfl, ifF (by decide +kernel) ?_⟩
      exact ⟨_, rfl, kept⟩
    | var x =>
      refine ⟨_, rfl, a, _, _, _, rfl, rfl, SqT.of ha, by rfl, rfl, _, rfl, ifF (by decide +kernel) ?_⟩
      refine ⟨_, rfl, a, _, _, _, rfl, rfl, SqT.of ha, by rfl, rfl, _, rfl, ifT (by decide +kernel) ?_⟩
      refine ⟨_, rfl, a, _, _, _, rfl, rfl, SqT.of ha, by rfl, _, rfl, l, _, rfl, .inl (SqL.of hl), rfl, flat_strs _, _, rfl, ?_⟩
      exact ite2 (fun _ => ⟨few, made⟩) (fun _ => ⟨_, rfl, kept⟩)
end
end K21

set_option Elab.async false
set_option linter.all false
set_option maxHeartbeats 4000000
namespace K21
open PySem L2
/-! ### the mathematics: what is bound, what is wrong -/
def vars : List Tm → List Str
  | [] => []
  | .var x :: r => x :: vars r
  | .any :: r => vars r
  | .val _ :: r => vars r
theorem vars_append : ∀ a b : List Tm, vars (a ++ b) = vars a ++ vars b
  | [], _ => rfl
  | .var x :: r, b => by show x :: vars (r ++ b) = x :: (vars r ++ vars b); rw [vars_append r b]
  | .any :: r, b => vars_append r b
  | .val _ :: r, b => vars_append r b
theorem vars_len : ∀ a : List Tm, (vars a).length ≤ a.length
  | [] => Nat.le_refl _
  | .var x :: r => Nat.succ_le_succ (vars_len r)
  | .any :: r => Nat.le_succ_of_le (vars_len r)
  | .val _ :: r => Nat.le_succ_of_le (vars_len r)
theorem take_more {α : Type} {l : List α} {i : Nat} {x : α} (h : l[i]? = some x) : l.take (i + 1) = l.take i ++ [x] := by
  rw [List.take_add_one, h]
  rfl
theorem drop_more {α : Type} {l : List α} {i : Nat} {x : α} (h : l[i]? = some x) : l.drop i = x :: l.drop (i + 1) := by
  obtain ⟨hi, e⟩ := List.getElem?_eq_some_iff.mp h
  rw [List.drop_eq_getElem_cons hi, e]
theorem vars_take {ts : List Tm} {i : Nat} {t : Tm} (h : ts[i]? = some t) : vars (ts.take (i + 1)) = vars (ts.take i) ++ vars [t] := by
  rw [take_more h, vars_append]
def Lit.binds : Lit → List Str
  | .fact _ ts => vars ts
  | .is x _ _ _ => [x]
  | .cnt x _ _ => [x]
  | _ => []
def loose (xs : List Str) (lets : Bool) : List Tm → Option Prob
  | [] => none
  | .any :: r => if lets = true then loose xs lets r else some .any
  | .var x :: r => if x ∈ xs then loose xs lets r else some (.unb x)
  | .val _ :: r => loose xs lets r
/-- the literal's relation, with its terms -/
def atomP (cols : Str → Option Nat) (r : Str) (ts : List Tm) : Option Prob :=
  match cols r with
  | none => some (.norel r)
  | some n => if n = ts.length then none else some (.width r)
def litProb (cols : Str → Option Nat) (xs : List Str) : Lit → Option Prob
  | .cmp _ a b => loose xs false [a, b]
  | .is _ _ a b => loose xs false [a, b]
  | .fact r ts => atomP cols r ts
  | .neg r ts => match atomP cols r ts with
    | some p => some p
    | none => loose xs true ts
  | .cnt x r ts => match atomP cols r ts with
    | some p => some p
    | none => if x ∈ vars ts then some (.own x) else none
/-- each name once: those ahead of place i -/
def once (l : List Str) : Nat → List Str
  | 0 => []
  | i + 1 => once l i ++ (match l[i]? with
    | none => []
    | some x => if x ∈ l.take i then [] else [x])
def addAll (xs : List Str) (l : List Str) : List Str := l.foldl (fun k v => if v ∈ k then k else k ++ [v]) xs
theorem addAll_more {xs l : List Str} {i : Nat} {x : Str} (h : l[i]? = some x) : addAll xs (l.take (i + 1)) = if x ∈ addAll xs (l.take i) then addAll xs (l.take i) else addAll xs (l.take i) ++ [x] := by
  rw [take_more h]
  unfold addAll
  rw [List.foldl_append]
  rfl
theorem mem_addAll (y : Str) : ∀ (l xs : List Str), y ∈ addAll xs l ↔ y ∈ xs ∨ y ∈ l
  | [], xs => by simp [addAll]
  | v :: r, xs => by
    have e : addAll xs (v :: r) = addAll (if v ∈ xs then xs else xs ++ [v]) r := rfl
    rw [e, mem_addAll y r]
    by_cases h : v ∈ xs
    · rw [if_pos h, List.mem_cons]
      constructor
      · rintro (h1 | h1)
        · exact .inl h1
        · exact .inr (.inr h1)
      · rintro (h1 | h1 | h1)
        · exact .inl h1
        · subst h1; exact .inl h
        · exact .inr h1
    · rw [if_neg h, List.mem_append, List.mem_singleton, List.mem_cons]
      constructor
      · rintro ((h1 | h1) | h1)
        · exact .inl h1
        · exact .inr (.inl h1)
        · exact .inr (.inr h1)
      · rintro (h1 | h1 | h1)
        · exact .inl (.inl h1)
        · exact .inl (.inr h1)
        · exact .inr h1
def news (xs l : List Str) : List Str := l.filter fun y => decide (y ∉ xs)
/-- what the law adds is what the program adds -/
theorem addAll_once (xs l : List Str) : ∀ i, i ≤ l.length → addAll xs (l.take i) = xs ++ news xs (once l i)
  | 0, _ => by simp [addAll, once, news]
  | i + 1, h => by
    have hi : i < l.length := h
    have e : l[i]? = some l[i] := List.getElem?_eq_getElem hi
    have ih := addAll_once xs l i (Nat.le_of_lt hi)
    rw [addAll_more e]
    show _ = xs ++ news xs (once l i ++ (match l[i]? with | none => [] | some x => if x ∈ l.take i then [] else [x]))
    rw [e]
    show _ = xs ++ news xs (once l i ++ (if l[i] ∈ l.take i then [] else [l[i]]))
    have m : l[i] ∈ addAll xs (l.take i) ↔ l[i] ∈ xs ∨ l[i] ∈ l.take i := mem_addAll _ _ _
    by_cases h1 : l[i] ∈ l.take i
    · rw [if_pos h1, if_pos (m.mpr (.inr h1)), List.append_nil, ih]
    · rw [if_neg h1]
      by_cases h2 : l[i] ∈ xs
      · rw [if_pos (m.mpr (.inl h2)), ih]
        unfold news
        rw [List.filter_append]
        simp [h2]
      · rw [if_neg (fun z => (m.mp z).elim h2 h1), ih]
        unfold news
        rw [List.filter_append]
        simp [h2]
theorem addAll_all (xs l : List Str) : addAll xs l = xs ++ news xs (once l l.length) := by
  have h := addAll_once xs l l.length (Nat.le_refl _)
  rwa [List.take_length] at h
theorem once_len (l : List Str) : ∀ i, (once l i).length ≤ i
  | 0 => Nat.le_refl _
  | i + 1 => by
    show (once l i ++ _).length ≤ _
    rw [List.length_append]
    have h := once_len l i
    have : (match l[i]? with | none => [] | some x => if x ∈ l.take i then [] else [x]).length ≤ 1 := by
      cases l[i]? with
      | none => exact Nat.zero_le _
      | some x =>
        show (if x ∈ l.take i then [] else [x]).length ≤ 1
        split <;> simp
    omega
theorem news_len (xs l : List Str) : (news xs l).length ≤ l.length := List.length_filter_le _ _
theorem addAll_len (xs l : List Str) : (addAll xs l).length ≤ xs.length + l.length := by
  rw [addAll_all, List.length_append]
  have h1 := news_len xs (once l l.length)
  have h2 := once_len l l.length
  omega
theorem news_snoc (xs l : List Str) (x : Str) : news xs (l ++ [x]) = if x ∈ xs then news xs l else news xs l ++ [x] := by
  unfold news
  rw [List.filter_append]
  by_cases h : x ∈ xs <;> simp [h]
/-- a body's first problem, and what is bound ahead of it -/
def bodyProb (cols : Str → Option Nat) : List Str → List Lit → Option Prob × List Str
  | xs, [] => (none, xs)
  | xs, l :: r => match litProb cols xs l with
    | some p => (some p, xs)
    | none => bodyProb cols (addAll xs l.binds) r
end K21

set_option Elab.async false
set_option linter.all false
set_option maxRecDepth 100000
set_option maxHeartbeats 4000000
namespace K21
open PySem PySem.Spec PyProof.Rows L2
def spVars : Sp := fun vs H Q _ => ∃ (v : V) (ts : List Tm), vs = [v] ∧ TsAt H v ts ∧ ∀ (v' : V) (H' : Hp), NewNm H H' v' (vars ts) → Same H H' → Q v' H'
def spBinds : Sp := fun vs H Q _ => ∃ (v : V) (l : Lit), vs = [v] ∧ LitAt H v l ∧ ∀ (v' : V) (H' : Hp), NewNm H H' v' l.binds → Same H H' → Q v' H'
def spEach : Sp := fun vs H Q _ => ∃ (v : V) (xs : List Str), vs = [v] ∧ NmAt H v xs ∧ xs.length ≤ 200 ∧ ∀ (v' : V) (H' : Hp), NewNm H H' v' (once xs xs.length) → Same H H' → Q v' H'
def spLoose : Sp := fun vs H Q _ => ∃ (v b : V) (lets : Bool) (ts : List Tm) (xs : List Str), vs = [v, b, .bl lets] ∧ TsAt H v ts ∧ NmAt H b xs ∧ ∀ (v' : V) (H' : Hp), PrAt H' v' (loose xs lets ts) → Same H H' → Q v' H'
def spTerms (C : Addr) : Sp := fun vs H Q E => ∃ (v b : V) (lets : Bool) (ts : List Tm) (xs : List Str), vs = [v, b, .bl lets] ∧ TsAt H v ts ∧ NmAt H b xs ∧
  match loose xs lets ts with
  | none => ∀ H', Same H H' → Q .non H'
  | some p => ErrAt C H E p
section
variable {P : Program} {w : World} {K : PySem.W.Frag} {mg : Str → Option Value} {base : Heap} {A : Nm → Addr} {D : Nm → FuncData}
/-- the reading of [t[1] for t in ts if t[0] == 'variable'] -/
theorem read_vars {H : Hp} {a : Addr} {vs : List V} {ts : List Tm} {σ : L2.St} {j : Nat} {Q : VK} {F : PySem.W.Frag}
    (ha : H a = some (.tup vs)) (hts : TmsAt H vs ts) (hz : ts.length ≤ 100) (hj : j < σ.length) (k : ∀ (v' : V) (H' : Hp), NewNm H H' v' (vars ts) → Same H H' → Q v' H') (D : Addr) (hD : H D = none) :
    ∃ W : Nat → Nat → Hp → Prop, (∃ m, W 0 m (L2.upd H D (.lst []))) ∧ ∀ i m H, W i m H →
      ((Itt F a).stop i H ∧ Q (.ref D) H) ∨ ((Itt F a).go i H ∧ ∃ Nx : Hp → Prop, (∀ H', Nx H' → ∃ m', m' < m ∧ W (i + 1) m' H') ∧ ∀ x H', (Itt F a).yld i H x H' → gName j x (wipe σ [j]) H' fun σ2 H2 => wipe σ2 [j] = wipe σ [j] ∧ tTest (tOp rEq (tOp (rIxT F) (tVar j) (tC (.int 0))) (tC (.str "variable"))) σ2 H2 fun b H3 =>
        if b = true then (tOp (rIxT F) (tVar j) (tC (.int 1))) σ2 H3 fun y H4 => ∃ acc, H4 D = some (.lst acc) ∧ acc.length < sizeLine ∧ Nx (L2.upd H4 D (.lst (acc ++ [y]))) else Nx H3) := by
  refine lc_tup (K := F) (a := a) (xs := vs) (fun i H1 => Same H H1 ∧ H1 D = some (.lst ((vars (ts.take i)).map V.str))) ⟨Same.upd hD, upd_same⟩ (fun i H1 _ p => SqT.of (p.1 _ _ ha)) ?_ ?_
  · rintro i x H1 hi ⟨s1, d1⟩
    obtain ⟨t, ht, q⟩ := Paired.get hts hi
    obtain ⟨b, rfl, hb⟩ := q
    have hb1 := s1 _ _ hb
    have hl : j < (wipe σ [j]).length := by rw [wipe_length]; exact hj
    have g : ((wipe σ [j]).set j (some (.ref b)))[j]? = some (some (.ref b)) := List.getElem?_set_self hl
    have hset : wipe ((wipe σ [j]).set j (some (V.ref b))) [j] = wipe σ [j] := by
      show ((σ.set j none).set j (some (V.ref b))).set j none = σ.set j none
      rw [List.set_set, List.set_set]
    have hv := vars_take ht
    have hlen : ((vars (ts.take i)).map V.str).length < sizeLine := by
      rw [List.length_map]
      have h1 := vars_len (ts.take i)
      have h2 : (ts.take i).length ≤ ts.length := by rw [List.length_take]; exact Nat.min_le_right _ _
      exact line4' (by omega)
    refine ⟨hset, ?_⟩
    cases t with
    | any => exact ⟨_, g, b, _, _, _, rfl, rfl, SqT.of hb1, by rfl, rfl, _, rfl, ifF (by decide +kernel) ⟨s1, by rw [hv]; simpa [vars] using d1⟩⟩
    | val u => exact ⟨_, g, b, _, _, _, rfl, rfl, SqT.of hb1, by rfl, rfl, _, rfl, ifF (by decide +kernel) ⟨s1, by rw [hv]; simpa [vars] using d1⟩⟩
    | var z =>
      refine ⟨_, g, b, _, _, _, rfl, rfl, SqT.of hb1, by rfl, rfl, _, rfl, ifT (by decide +kernel) ?_⟩
      refine ⟨_, g, b, _, _, _, rfl, rfl, SqT.of hb1, by rfl, _, d1, hlen, fun c o e => ?_, ?_⟩
      · rw [upd_ne (ne_of_none e hD)]
        exact s1 _ _ e
      · rw [upd_same, hv, List.map_append]
        rfl
  · rintro H1 ⟨s1, d1⟩
    have e : vs.length = ts.length := Paired.len hts
    rw [e, List.take_length] at d1
    exact k _ _ ⟨D, rfl, hD, d1⟩ s1
theorem scVars : FnScope ["terms", "term"] ["terms"] (defScope sVars) := ⟨rfl, rfl, rfl, by decide +kernel, rfl, by decide +kernel, by decide +kernel⟩
theorem ok_vars (T : Txt P K mg A D) : FnOk P w K mg base CX0 1 (A .vars) (D .vars) ["terms"] spVars := by
  refine T.vars.F.ok scVars (fun vs H Q E h => ?_) (fun cdv Ar outer s H vs Q E hr h => ?_)
  · obtain ⟨v, ts, rfl, _⟩ := h
    rfl
  · obtain ⟨v, ts, rfl, ht, k⟩ := h
    obtain ⟨a, vs, rfl, ha, hts, hz⟩ := id ht
    refine ⟨_, pss_one (ps_ret (pe_lc (own := [("term", 1)]) (g := gName 1) rfl scVars.nd (pi_tup (pv 0)) (blkOk_by (own := [("term", 1)]) (N := ["terms", "term"]) (sc := defScope sVars) (by decide +kernel))
      (fun _ _ _ _ _ => pg_name (i := 1) scVars.nd rfl (Or.inl rfl)) (fun _ _ _ _ _ => pts_one (pt_cmpR op_eq (pe_ix (r := rIxT K) ix_tup (pv 1) pe_int (fun _ _ => rfl)) pe_str (nomark _))) (fun _ _ _ _ _ => pe_ix (r := rIxT K) ix_tup (pv 1) pe_int (fun _ _ => rfl)))), ?_⟩
    exact ⟨_, rfl, a, rfl, ⟨_, SqT.of ha⟩, fun D hD => read_vars ha hts hz (by show (1 : Nat) < 2; decide) k D hD⟩
theorem scBinds : FnScope ["_law_literal_here", "_law_term_here"] ["_law_literal_here"] (defScope sBinds) := ⟨rfl, rfl, rfl, by decide +kernel, rfl, by decide +kernel, by decide +kernel⟩
theorem ok_binds (T : Txt P K mg A D) : FnOk P w K mg base CX0 1 (A .binds) (D .binds) ["_law_literal_here"] spBinds := by
  refine T.binds.F.ok scBinds (fun vs H Q E h => ?_) (fun cdv Ar outer s H vs Q E hr h => ?_)
  · obtain ⟨v, ts, rfl, _⟩ := h
    rfl
  · obtain ⟨v, l, rfl, hl, k⟩ := h
    refine ⟨_, pss_cons (ps_if (pt_cmpR op_eq (pe_ix ix_tup (pv 0) pe_int (fun _ _ => rfl)) pe_str (nomark _))
        (pss_one (ps_ret (pe_lc (own := [("_law_term_here", 1)]) (g := gName 1) rfl scBinds.nd (pi_tup (pe_ix ix_tup (pv 0) pe_int (fun _ _ => rfl))) (blkOk_by (own := [("_law_term_here", 1)]) (N := ["_law_literal_here", "_law_term_here"]) (sc := defScope sBinds) (by decide +kernel))
          (fun _ _ _ _ _ => pg_name (i := 1) scBinds.nd rfl (Or.inl rfl)) (fun _ _ _ _ _ => pts_one (pt_cmpR op_eq (pe_ix (r := rIxT K) ix_tup (pv 1) pe_int (fun _ _ => rfl)) pe_str (nomark _))) (fun _ _ _ _ _ => pe_ix (r := rIxT K) ix_tup (pv 1) pe_int (fun _ _ => rfl)))))
        pss_nil)
      (pss_cons (ps_if (pt_cmpR op_in_seq (pe_ix ix_tup (pv 0) pe_int (fun _ _ => rfl)) (pe_lst (pa_cons pe_str (pa_cons pe_str pa_nil))) (by rfl))
        (pss_one (ps_ret (pe_lst (pa_cons (pe_ix ix_tup (pv 0) pe_int (fun _ _ => rfl)) pa_nil))))
        pss_nil)
      (pss_one (ps_ret (pe_lst pa_nil)))), ?_⟩
    cases l with
    | fact r ts =>
      obtain ⟨a, tv, rfl, ha, b, vs, rfl, hb, hts, hz⟩ := id hl
      refine ⟨_, rfl, a, _, _, _, rfl, rfl, SqT.of ha, by rfl, rfl, _, rfl, ifT (by decide +kernel) ?_⟩
      refine ⟨_, rfl, a, _, _, _, rfl, rfl, SqT.of ha, by rfl, b, rfl, ⟨_, SqT.of hb⟩, fun D hD => read_vars hb hts hz (by show (1 : Nat) < 2; decide) k D hD⟩
    | neg r ts =>
      obtain ⟨a, tv, rfl, ha, _⟩ := id hl
      refine ⟨_, rfl, a, _, _, _, rfl, rfl, SqT.of ha, by rfl, rfl, _, rfl, ifF (by decide +kernel) ?_⟩
      refine ⟨_, rfl, a, _, _, _, rfl, rfl, SqT.of ha, by rfl, few, fun p hp => ⟨p, _, rfl, .inl (SqL.of upd_same), rfl, rfl, _, rfl, ifF (by decide +kernel) ⟨few, fun q hq => ?_⟩⟩⟩
      exact k _ _ ⟨q, rfl, L2.Same.free (Same.upd hp) hq, upd_same⟩ (Same.new (Same.upd hp) hq)
    | cmp o t u =>
      obtain ⟨a, tv, uv, rfl, ha, _⟩ := id hl
      refine ⟨_, rfl, a, _, _, _, rfl, rfl, SqT.of ha, by rfl, rfl, _, rfl, ifF (by decide +kernel) ?_⟩
      refine ⟨_, rfl, a, _, _, _, rfl, rfl, SqT.of ha, by rfl, few, fun p hp => ⟨p, _, rfl, .inl (SqL.of upd_same), rfl, rfl, _, rfl, ifF (by decide +kernel) ⟨few, fun q hq => ?_⟩⟩⟩
      exact k _ _ ⟨q, rfl, L2.Same.free (Same.upd hp) hq, upd_same⟩ (Same.new (Same.upd hp) hq)
    | is x o t u =>
      obtain ⟨a, tv, uv, rfl, ha, _⟩ := id hl
      refine ⟨_, rfl, a, _, _, _, rfl, rfl, SqT.of ha, by rfl, rfl, _, rfl, ifF (by decide +kernel) ?_⟩
      refine ⟨_, rfl, a, _, _, _, rfl, rfl, SqT.of ha, by rfl, few, fun p hp => ⟨p, _, rfl, .inl (SqL.of upd_same), rfl, rfl, _, rfl, ifT (by decide +kernel) ?_⟩⟩
      refine ⟨_, rfl, a, _, _, _, rfl, rfl, SqT.of (Same.upd hp _ _ ha), by rfl, few, fun q hq => ?_⟩
      exact k _ _ ⟨q, rfl, L2.Same.free (Same.upd hp) hq, upd_same⟩ (Same.new (Same.upd hp) hq)
    | cnt x r ts =>
      obtain ⟨a, tv, rfl, ha, _⟩ := id hl
      refine ⟨_, rfl, a, _, _, _, rfl, rfl, SqT.of ha, by rfl, rfl, _, rfl, ifF (by decide +kernel) ?_⟩
      refine ⟨_, rfl, a, _, _, _, rfl, rfl, SqT.of ha, by rfl, few, fun p hp => ⟨p, _, rfl, .inl (SqL.of upd_same), rfl, rfl, _, rfl, ifT (by decide +kernel) ?_⟩⟩
      refine ⟨_, rfl, a, _, _, _, rfl, rfl, SqT.of (Same.upd hp _ _ ha), by rfl, few, fun q hq => ?_⟩
      exact k _ _ ⟨q, rfl, L2.Same.free (Same.upd hp) hq, upd_same⟩ (Same.new (Same.upd hp) hq)
theorem scEach : FnScope ["_law_names", "_law_k"] ["_law_names"] (defScope sEach) := ⟨rfl, rfl, rfl, by decide +kernel, rfl, by decide +kernel, by decide +kernel⟩
theorem cut_take (xs : List V) (i : Nat) : cutV xs none (some (i : Int)) = xs.take i := by
  unfold cutV
  rw [HT.sIx_none, HT.sIx_nat, List.drop_zero, Nat.sub_zero]
  by_cases h : i ≤ xs.length
  · rw [Nat.min_eq_left h]
  · rw [Nat.min_eq_right (by omega), List.take_length, List.take_of_length_le (by omega)]
theorem ok_each (T : Txt P K mg A D) : FnOk P w K mg base CX0 1 (A .each) (D .each) ["_law_names"] spEach := by
  refine T.each.F.ok scEach (fun vs H Q E h => ?_) (fun cdv Ar outer s H vs Q E hr h => ?_)
  · obtain ⟨v, ts, rfl, _⟩ := h
    rfl
  · obtain ⟨v, xs, rfl, hx, hz, k⟩ := h
    obtain ⟨a, rfl, ha⟩ := id hx
    refine ⟨_, pss_one (ps_ret (pe_lc (own := [("_law_k", 1)]) (g := gName 1) rfl scEach.nd (pi_range1 (by rfl) T.range (pa_cons (pe_callB call_len_seq (by rfl) T.len PySem.boot_len (pa_cons (pv 0) pa_nil)) pa_nil))
      (blkOk_by (own := [("_law_k", 1)]) (N := ["_law_names", "_law_k"]) (sc := defScope sEach) (by decide +kernel))
      (fun _ _ _ _ _ => pg_name (i := 1) scEach.nd rfl (Or.inl rfl))
      (fun _ _ _ _ _ => pts_one (pt_cmpR (r := rIn K true) op_notIn_seq (pe_ix (r := rIxL K) ix_list (pv 0) (pv 1) (fun _ _ => rfl)) (pe_slice (r := rSlL K) sl_list (pv 0) po_none (po_some (pv 1))) (by rfl)))
      (fun _ _ _ _ _ => pe_ix (r := rIxL K) ix_list (pv 0) (pv 1) (fun _ _ => rfl)))), ?_⟩
    refine ⟨_, rfl, a, _, rfl, .inl (SqL.of ha), _, rfl, by omega, by rw [List.length_map]; omega, fun D hD => ?_⟩
    have hn : ((xs.map V.str).length : Int).toNat = xs.length := by rw [List.length_map]; rfl
    rw [hn]
    refine lc_range (lo := 0) (n := xs.length) (fun i H1 => Same H H1 ∧ H1 D = some (.lst ((once xs i).map V.str))) ⟨Same.upd hD, upd_same⟩ ?_ ?_
    · rintro i H1 hi ⟨s1, d1⟩
      have ha1 := s1 _ _ ha
      have ex : xs[i]? = some xs[i] := List.getElem?_eq_getElem hi
      have hx1 : (xs.map V.str)[i]? = some (V.str xs[i]) := by rw [List.getElem?_map, ex]; rfl
      have e0 : V.int (0 + (i : Int)) = V.int (i : Int) := by rw [Int.zero_add]
      show gName 1 (V.int (0 + (i : Int))) _ _ _
      rw [e0]
      refine ⟨rfl, _, rfl, _, rfl, a, _, _, _, rfl, rfl, SqL.of ha1, atI_nat hx1, _, rfl, _, rfl, _, rfl, a, _, rfl, SqL.of ha1, fun p hp => ?_⟩
      have s2 : ∀ o, Same H (L2.upd H1 p o) := fun o => Same.new s1 hp
      have d2 : ∀ o, L2.upd H1 p o D = some (.lst ((once xs i).map V.str)) := fun o => Same.upd hp _ _ d1
      have eo : once xs (i + 1) = once xs i ++ (if xs[i] ∈ xs.take i then [] else [xs[i]]) := by
        show once xs i ++ (match xs[i]? with | none => [] | some x => if x ∈ xs.take i then [] else [x]) = _
        rw [ex]
      refine ⟨p, _, rfl, .inl (SqL.of upd_same), rfl, by rw [cut_take, ← List.map_take]; exact flat_strs _, _, rfl, ?_⟩
      rw [cut_take, ← List.map_take, inV_strs]
      show if (!decide (xs[i] ∈ xs.take i)) = true then _ else _
      by_cases hm : xs[i] ∈ xs.take i
      · rw [decide_eq_true hm]
        refine iteF ⟨s2 _, ?_⟩
        rw [eo, if_pos hm, List.append_nil]
        exact d2 _
      · rw [decide_eq_false hm]
        refine iteT ?_
        have ha2 := fun o => s2 o _ _ ha
        have hl : ((once xs i).map V.str).length < sizeLine := by
          rw [List.length_map]
          have := once_len xs i
          exact line4' (by omega)
        refine ⟨_, rfl, _, rfl, a, _, _, _, rfl, rfl, SqL.of (ha2 _), atI_nat hx1, _, d2 _, hl, fun c o e => ?_, ?_⟩
        · rw [upd_ne (ne_of_none e hD)]
          exact s2 _ _ _ e
        · rw [upd_same, eo, if_neg hm, List.map_append]
          rfl
    · rintro H1 ⟨s1, d1⟩
      exact k _ _ ⟨D, rfl, hD, d1⟩ s1
theorem scLoose : FnScope ["_law_terms", "_law_bound", "_law_lets_any", "_law_term_here"] ["_law_terms", "_law_bound", "_law_lets_any"] (defScope sLoose) := ⟨rfl, rfl, rfl, by decide +kernel, rfl, by decide +kernel, by decide +kernel⟩
theorem ok_loose (T : Txt P K mg A D) : FnOk P w K mg base CX0 1 (A .loose) (D .loose) ["_law_terms", "_law_bound", "_law_lets_any"] spLoose := by
  refine T.loose.F.ok scLoose (fun vs H Q E h => ?_) (fun cdv Ar outer s H vs Q E hr h => ?_)
  · obtain ⟨v, b, lets, ts, xs, rfl, _⟩ := h
    rfl
  · obtain ⟨v, b, lets, ts, xs, rfl, ht, hb, k⟩ := h
    obtain ⟨a, vs, rfl, ha, hts, hz⟩ := id ht
    obtain ⟨l, rfl, hl⟩ := id hb
    refine ⟨_, pss_cons (ps_for PassesOwn.never rfl (pi_tup (pv 0)) (pg_name (i := 3) scLoose.nd rfl (Or.inl rfl))
      (pss_cons (ps_if (PW.pt (pw_and (pt_cmpR op_eq (pe_ix ix_tup (pv 3) pe_int (fun _ _ => rfl)) pe_str (nomark _)) (pw_and1 (pt_not (pt_val (pv 2))))))
        (pss_one (ps_ret (pe_tup (pa_cons pe_str pa_nil)))) pss_nil)
      (pss_one (ps_if (PW.pt (pw_and (pt_cmpR op_eq (pe_ix ix_tup (pv 3) pe_int (fun _ _ => rfl)) pe_str (nomark _)) (pw_and1 (pt_cmpR op_notIn_seq (pe_ix ix_tup (pv 3) pe_int (fun _ _ => rfl)) (pv 1) (by rfl)))))
        (pss_one (ps_ret (pe_tup (pa_cons pe_str (pa_cons (pe_ix ix_tup (pv 3) pe_int (fun _ _ => rfl)) pa_nil))))) pss_nil))))
      (pss_one (ps_ret pe_non)), ?_⟩
    refine ⟨_, rfl, a, rfl, ⟨_, SqT.of ha⟩, for_tup (K := K) (a := a) (xs := vs) (fun i σ H1 => (∃ v3 : Option V, σ = [some (.ref a), some (.ref l), some (.bl lets), v3]) ∧ H1 = H ∧ loose xs lets ts = loose xs lets (ts.drop i))
      ⟨⟨_, rfl⟩, rfl, rfl⟩ (fun i σ H1 _ p => by rw [p.2.1]; exact SqT.of ha) ?_ ?_⟩
    · rintro i x σ H1 hi ⟨⟨v3, rfl⟩, rfl, hp⟩
      obtain ⟨t, ht', b', rfl, hb'⟩ := Paired.get hts hi
      rw [drop_more ht'] at hp
      cases t with
      | any =>
        refine ⟨_, rfl, b', _, _, _, rfl, rfl, SqT.of hb', by rfl, rfl, _, rfl, ifT (by decide +kernel) ⟨_, rfl, _, rfl, ?_⟩⟩
        cases lets with
        | false => exact iteT ⟨few, fun p hn => k _ _ (by rw [hp]; exact ⟨p, rfl, upd_same⟩) (Same.upd hn)⟩
        | true =>
          refine iteF ?_
          refine ⟨_, rfl, b', _, _, _, rfl, rfl, SqT.of hb', by rfl, rfl, _, rfl, ifF (by decide +kernel) ?_⟩
          exact ⟨⟨_, rfl⟩, rfl, hp⟩
      | val u =>
        refine ⟨_, rfl, b', _, _, _, rfl, rfl, SqT.of hb', by rfl, rfl, _, rfl, ifF (by decide +kernel) ?_⟩
        refine ⟨_, rfl, b', _, _, _, rfl, rfl, SqT.of hb', by rfl, rfl, _, rfl, ifF (by decide +kernel) ?_⟩
        exact ⟨⟨_, rfl⟩, rfl, hp⟩
      | var z =>
        refine ⟨_, rfl, b', _, _, _, rfl, rfl, SqT.of hb', by rfl, rfl, _, rfl, ifF (by decide +kernel) ?_⟩
        refine ⟨_, rfl, b', _, _, _, rfl, rfl, SqT.of hb', by rfl, rfl, _, rfl, ifT (by decide +kernel) ?_⟩
        refine ⟨_, rfl, b', _, _, _, rfl, rfl, SqT.of hb', by rfl, _, rfl, l, _, rfl, .inl (SqL.of hl), rfl, flat_strs _, _, rfl, ?_⟩
        rw [inV_strs]
        show if (!decide (z ∈ xs)) = true then _ else _
        by_cases hm : z ∈ xs
        · rw [decide_eq_true hm]
          refine iteF ⟨⟨_, rfl⟩, rfl, ?_⟩
          rw [hp]
          show (if z ∈ xs then _ else _) = _
          rw [if_pos hm]
        · rw [decide_eq_false hm]
          refine iteT ⟨_, rfl, b', _, _, _, rfl, rfl, SqT.of hb', by rfl, few, fun p hn => k _ _ ?_ (Same.upd hn)⟩
          rw [hp]
          show PrAt _ _ (if z ∈ xs then _ else _)
          rw [if_neg hm]
          exact ⟨p, rfl, upd_same⟩
    · rintro σ H1 ⟨⟨v3, rfl⟩, rfl, hp⟩
      have e : vs.length = ts.length := Paired.len hts
      rw [e, List.drop_length] at hp
      exact k _ _ (by rw [hp]; rfl) (L2.Same.refl _)
end
end K21

set_option Elab.async false
set_option linter.all false
set_option maxRecDepth 100000
set_option maxHeartbeats 4000000
namespace K21
open PySem PySem.Spec PyProof.Rows L2
def colV : Option Nat → V
  | none => .non
  | some n => .int (n : Nat)
section
variable {C : Addr} {rels : List (Str × Nat)} {rus : List Rul} {dens : List Str}
def spColumns (C : Addr) (rels : List (Str × Nat)) (rus : List Rul) (dens : List Str) : Sp := fun vs H Q _ => ∃ (p : Addr) (r : Str), vs = [.ref p, .str r] ∧ StOk C H p rels rus dens ∧ ∀ H', Same H H' → Q (colV (cols rels rus r)) H'
def spAtom (C R : Addr) (rels : List (Str × Nat)) (rus : List Rul) (dens : List Str) : Sp := fun vs H Q E => ∃ (p : Addr) (r : Str) (tv : V) (ts : List Tm), vs = [.ref p, .str r, tv] ∧ StOk C H p rels rus dens ∧ TsAt H tv ts ∧
  match atomP (cols rels rus) r ts with
  | none => ∀ H', Same H H' → Q .non H'
  | some q => ErrAt R H E q
def spLit (C R : Addr) (rels : List (Str × Nat)) (rus : List Rul) (dens : List Str) : Sp := fun vs H Q E => ∃ (p : Addr) (lv b : V) (l : Lit) (xs : List Str), vs = [.ref p, lv, b] ∧ StOk C H p rels rus dens ∧ LitAt H lv l ∧ NmAt H b xs ∧
  match litProb (cols rels rus) xs l with
  | none => ∀ v' H', NewNm H H' v' l.binds → Same H H' → Q v' H'
  | some q => ErrAt R H E q
def spBody (C R : Addr) (rels : List (Str × Nat)) (rus : List Rul) (dens : List Str) : Sp := fun vs H Q E => ∃ (p : Addr) (bv : V) (ls : List Lit), vs = [.ref p, bv] ∧ StOk C H p rels rus dens ∧ BodyAt H bv ls ∧
  match bodyProb (cols rels rus) [] ls with
  | (none, xs) => ∀ a H', H' a = some (.tup (xs.map V.str)) → Same H H' → Q (.ref a) H'
  | (some q, _) => ErrAt R H E q
def spDenial (C R : Addr) (rels : List (Str × Nat)) (rus : List Rul) (dens : List Str) : Sp := fun vs H Q E => ∃ (p : Addr) (n : Str) (bv : V) (ls : List Lit), vs = [.ref p, .str n, bv] ∧ StOk C H p rels rus dens ∧ BodyAt H bv ls ∧
  if n ∈ dens then ErrAt R H E (.exd n) else
  match bodyProb (cols rels rus) [] ls with
  | (none, _) => ∀ H', Same H H' → Q .non H'
  | (some q, _) => ErrAt R H E q
theorem lookup_none {rels : List (Str × Nat)} {r : Str} : valV (relK rels) (Sum.inr r) = (rels.lookup r).map fun n => V.int (n : Nat) := by
  induction rels with
  | nil => rfl
  | cons x l ih =>
    obtain ⟨y, n⟩ := x
    show valV ((Sum.inr y, V.int (n : Nat)) :: relK l) (Sum.inr r) = _
    by_cases h : y = r
    · subst h
      rw [valV_pos rfl]
      simp [List.lookup]
    · rw [valV_neg (fun z => h (Sum.inr.inj z)), ih]
      have e : (r == y) = false := by simpa using fun z : r = y => h z.symm
      simp [List.lookup, e]
end
section
variable {P : Program} {w : World} {K : PySem.W.Frag} {mg : Str → Option Value} {base : Heap} {A : Nm → Addr} {D : Nm → FuncData} {C R : Addr} {rels : List (Str × Nat)} {rus : List Rul} {dens : List Str}
/-- the rule of a name -/
theorem ru_of {H : Hp} : ∀ {ruk : List (Key × V)} {rus : List Rul} {n : Str}, Paired (RuAt H) ruk rus → (rus.map (·.1)).Nodup → n ∈ rus.map (·.1) → ∃ r kv, r ∈ rus ∧ r.1 = n ∧ RuAt H kv r ∧ valV ruk (Sum.inr n) = some kv.2
  | _, _, n, .nil, _, h => by simp at h
  | _, _, n, .cons (a := kv) (b := r) (l₁ := ruk) (l₂ := rus) q t, nd, h => by
    by_cases e : r.1 = n
    · subst e
      exact ⟨r, kv, List.mem_cons_self, rfl, q, valV_pos q.1⟩
    · rw [List.map_cons, List.nodup_cons] at nd
      have h' : n ∈ rus.map (·.1) := by
        rw [List.map_cons, List.mem_cons] at h
        exact h.resolve_left fun z => e z.symm
      obtain ⟨r', kv', h1, h2, h3, h4⟩ := ru_of t nd.2 h'
      exact ⟨r', kv', List.mem_cons_of_mem _ h1, h2, h3, (valV_neg (by rw [q.1]; exact fun z => e (Sum.inr.inj z))).trans h4⟩
theorem dgetS {H : Hp} {a : Addr} {kvs : List (Key × V)} {x : Str} {v : V} (e : H a = some (.dK kvs)) (h : valV kvs (Sum.inr x) = some v) : DGet H a (.str x) (some v) := by
  have z := DGet.k (k := Sum.inr x) e
  rw [h] at z
  exact z
theorem nodup_fst : ∀ {l : List Rul} {a b : Rul}, (l.map (·.1)).Nodup → a ∈ l → b ∈ l → a.1 = b.1 → a = b
  | [], _, _, _, h, _, _ => by simp at h
  | r :: l, a, b, nd, ha, hb, e => by
    rw [List.map_cons, List.nodup_cons] at nd
    rcases List.mem_cons.mp ha with rfl | ha'
    · rcases List.mem_cons.mp hb with rfl | hb'
      · rfl
      · exact absurd (by rw [e]; exact List.mem_map_of_mem hb') nd.1
    · rcases List.mem_cons.mp hb with rfl | hb'
      · exact absurd (by rw [← e]; exact List.mem_map_of_mem ha') nd.1
      · exact nodup_fst nd.2 ha' hb' e
theorem keys_of {H : Hp} : ∀ {ruk : List (Key × V)} {rus : List Rul}, Paired (RuAt H) ruk rus → ruk.map (·.1) = (rus.map (·.1)).map Sum.inr
  | _, _, .nil => rfl
  | _, _, .cons q t => by rw [List.map_cons, List.map_cons, List.map_cons, q.1, keys_of t]
theorem scColumns : FnScope ["state", "relation", "name"] ["state", "relation"] (defScope sColumns) := ⟨rfl, rfl, rfl, by decide +kernel, rfl, by decide +kernel, by decide +kernel⟩
theorem ok_columns (T : Txt P K mg A D) (S : StC K mg C) : FnOk P w K mg base CX0 1 (A .columns) (D .columns) ["state", "relation"] (spColumns C rels rus dens) := by
  refine T.columns.F.ok scColumns (fun vs H Q E h => ?_) (fun cdv Ar outer s H vs Q E hr h => ?_)
  · obtain ⟨p, r, rfl, _⟩ := h
    rfl
  · obtain ⟨p, r, rfl, O, k⟩ := h
    have hu := hu_of hr
    obtain ⟨⟨dx, dr, df, du, dd, ruk, dk, h1, h2, h3, h4, h5, h6⟩, few', one', nd'⟩ := id O
    refine ⟨_, pss_cons (ps_if (pt_cmp (pc_din hu (pv 1) (pe_fld (pv 0) rfl)))
        (pss_one (ps_ret (pe_dget hu (pe_fld (pv 0) rfl) (pv 1) (fun _ _ => rfl)))) pss_nil)
      (pss_cons (ps_for PassesOwn.never rfl (pi_list (pe_callB (call_sortedD rfl) (by rfl) T.sorted (by decide +kernel) (pa_cons (pe_fld (pv 0) rfl) pa_nil))) (pg_name (i := 2) scColumns.nd rfl (Or.inl rfl))
        (pss_one (ps_if (pt_cmpR op_eq (pe_ix ix_tup (pe_dget hu (pe_fld (pv 0) rfl) (pv 2) (fun _ _ => rfl)) pe_int (fun _ _ => rfl)) (pv 1) (nomark _))
          (pss_one (ps_ret (pe_callB call_len_seq (by rfl) T.len PySem.boot_len (pa_cons (pe_ix ix_tup (pe_dget hu (pe_fld (pv 0) rfl) (pv 2) (fun _ _ => rfl)) pe_int (fun _ _ => rfl)) pa_nil)))) pss_nil)))
      (pss_one (ps_ret pe_non))), ?_⟩
    refine ⟨_, rfl, _, rfl, p, C, dx, _, _, rfl, h1, S.cl, S.nR, fld_r, dr, _, rfl, DGet.k (k := Sum.inr r) h2, _, rfl, ?_⟩
    rw [lookup_none]
    have hcol : cols rels rus r = match rels.lookup r with | some n => some n | none => (rus.find? fun x => decide (x.2.1 = r)).map (·.2.2) := rfl
    cases hl : rels.lookup r with
    | some n =>
      refine iteT ⟨_, rfl, p, C, dx, _, _, rfl, h1, S.cl, S.nR, fld_r, _, rfl, dr, V.int (n : Nat), rfl, dgetS h2 (by rw [lookup_none, hl]; rfl), ?_⟩
      have e : cols rels rus r = some n := by rw [hcol, hl]
      have z := k H (L2.Same.refl H)
      rw [e] at z
      exact z
    | none =>
      have hcol' : cols rels rus r = (rus.find? fun x => decide (x.2.1 = r)).map (·.2.2) := by rw [hcol, hl]
      refine iteF ⟨_, rfl, p, C, dx, _, _, rfl, h1, S.cl, S.nU, fld_u, du, ruk, rus.map (·.1), rfl, Rd.of h3, keys_of h4, by rw [List.length_map]; omega, fun ys l perm _ hl' => ⟨l, rfl, ⟨_, SqL.of upd_same⟩, ?_⟩⟩
      refine for_list (K := K) (a := l) (xs := ys.map V.str) (fun i σ H1 => (∃ v : Option V, σ = [some (.ref p), some (.str r), v]) ∧ H1 = L2.upd H l (.lst (ys.map V.str)) ∧ ∀ (y : Str) (x : Rul), y ∈ ys.take i → x ∈ rus → x.1 = y → x.2.1 ≠ r)
        ⟨⟨_, rfl⟩, rfl, fun y x hy => by simp at hy⟩ (fun i σ H1 _ q => by rw [q.2.1]; exact SqL.of upd_same) ?_ ?_
      · rintro i y σ H1 hi ⟨⟨v, rfl⟩, rfl, hp⟩
        have s1 : Same H (L2.upd H l (.lst (ys.map V.str))) := Same.upd hl'
        rw [List.getElem?_map] at hi
        cases hy : ys[i]? with
        | none => rw [hy] at hi; cases hi
        | some nm =>
          rw [hy] at hi
          have ey : V.str nm = y := Option.some.inj hi
          subst ey
          have hm : nm ∈ rus.map (·.1) := perm.subset (List.mem_of_getElem? hy)
          obtain ⟨ru, kv, m1, m2, ⟨m3, a, ta, ba, tvs, m4, m5, m6, m7⟩, m8⟩ := ru_of h4 nd' hm
          rw [m4] at m8
          refine ⟨_, rfl, p, C, dx, _, _, rfl, s1 _ _ h1, S.cl, S.nU, fld_u, _, rfl, du, _, rfl, dgetS (s1 _ _ h3) m8, a, _, _, _, rfl, rfl, SqT.of (s1 _ _ m5), by rfl, _, rfl, rfl, _, rfl, ?_⟩
          by_cases hr' : ru.2.1 = r
          · refine ifT (by rw [dec_str2]; exact decide_eq_true hr') ?_
            refine ⟨_, rfl, p, C, dx, _, _, rfl, s1 _ _ h1, S.cl, S.nU, fld_u, _, rfl, du, _, rfl, dgetS (s1 _ _ h3) m8, a, _, _, _, rfl, rfl, SqT.of (s1 _ _ m5), by rfl, ta, _, rfl, .inr (SqT.of (s1 _ _ m6)), ?_⟩
            have e : cols rels rus r = some tvs.length := by
              rw [hcol']
              cases hf : rus.find? fun x => decide (x.2.1 = r) with
              | none =>
                have z := List.find?_eq_none.mp hf ru m1
                exact absurd (decide_eq_true hr') z
              | some x =>
                have z := List.find?_some hf
                have z2 := List.mem_of_find?_eq_some hf
                have z3 : x.2.1 = r := of_decide_eq_true z
                have z4 := one' x ru z2 m1 (z3.trans hr'.symm)
                subst z4
                rw [m7]
                rfl
            have z := k _ s1
            rw [e] at z
            exact z
          · refine ifF (by rw [dec_str2]; exact decide_eq_false hr') ?_
            refine ⟨⟨_, rfl⟩, rfl, fun y x hy' hx ex => ?_⟩
            rw [take_more hy, List.mem_append, List.mem_singleton] at hy'
            rcases hy' with hy' | hy'
            · exact hp y x hy' hx ex
            · have z : x = ru := by
                have e1 : x.1 = ru.1 := by rw [ex, hy', m2]
                exact nodup_fst nd' hx m1 e1
              rw [z]
              exact hr'
      · rintro σ H1 ⟨⟨v, rfl⟩, rfl, hp⟩
        have e : cols rels rus r = none := by
          rw [hcol']
          cases hf : rus.find? fun x => decide (x.2.1 = r) with
          | none => rfl
          | some x =>
            have z : x.2.1 = r := of_decide_eq_true (by simpa using List.find?_some hf)
            have z2 := List.mem_of_find?_eq_some hf
            have z3 : x.1 ∈ ys := perm.symm.subset (List.mem_map_of_mem z2)
            exact absurd z (hp x.1 x (by rw [List.length_map, List.take_length]; exact z3) z2 rfl)
        have z := k (L2.upd H l (.lst (ys.map V.str))) (Same.upd hl')
        rw [e] at z
        exact z
end
end K21

set_option Elab.async false
set_option linter.all false
set_option maxRecDepth 100000
set_option maxHeartbeats 4000000
namespace K21
open PySem PySem.Spec PyProof.Rows L2
section
variable {P : Program} {w : World} {K : PySem.W.Frag} {mg : Str → Option Value} {base : Heap} {A : Nm → Addr} {D : Nm → FuncData} {C R : Addr} {rels : List (Str × Nat)} {rus : List Rul} {dens : List Str}
theorem scAtom : FnScope ["state", "relation", "terms", "width"] ["state", "relation", "terms"] (defScope sAtom) := ⟨rfl, rfl, rfl, by decide +kernel, rfl, by decide +kernel, by decide +kernel⟩
theorem ok_atom (T : Txt P K mg A D) (S : StC K mg C) (TR : RefTxt P K mg R) : FnOk P w K mg base (L2.CX P w) 2 (A .atom) (D .atom) ["state", "relation", "terms"] (spAtom C R rels rus dens) := by
  have GC : FnOk P w K mg base CX0 1 _ _ _ (spColumns C rels rus dens) := ok_columns T S
  refine T.atom.F.okX scAtom (fun vs H Q E h => ?_) (fun cdv Ar outer s H vs Q E hr h => ?_)
  · obtain ⟨p, r, tv, ts, rfl, _⟩ := h
    rfl
  · obtain ⟨p, r, tv, ts, rfl, O, ht, k⟩ := h
    obtain ⟨a, vs, rfl, ha, hts, hz⟩ := id ht
    refine ⟨_, pss_cons (ps_set (i := 3) scAtom.nd rfl (Or.inl rfl) (pe_call GC hr (by rfl) T.columns.g T.columns.kp T.columns.b .nil pass0 (pa_cons (pv 0) (pa_cons (pv 1) pa_nil))))
      (pss_cons (ps_if (pt_cmp (pc_isN (pv 3))) (pss_one (ps_raiseRef rfl TR hr (takes_of rfl rfl rfl rfl) (pa_cons (pe_tup (pa_cons pe_str (pa_cons (pv 1) pa_nil))) pa_nil))) pss_nil)
      (pss_one (ps_if (pt_cmpR op_ne (pv 3) (pe_callB call_len_seq (by rfl) T.len PySem.boot_len (pa_cons (pv 2) pa_nil)) (nomark _)) (pss_one (ps_raiseRef rfl TR hr (takes_of rfl rfl rfl rfl) (pa_cons (pe_tup (pa_cons pe_str (pa_cons (pv 1) pa_nil))) pa_nil))) pss_nil))), ?_⟩
    refine ⟨_, rfl, _, rfl, p, r, rfl, O, fun H1 s1 => ?_⟩
    unfold atomP at k
    cases hc : cols rels rus r with
    | none =>
      rw [hc] at k
      refine ⟨_, rfl, _, rfl, ifT (by decide +kernel) ⟨_, rfl, few, fun q hq => ⟨_, rfl, fun d hd => ?_⟩⟩⟩
      exact k d q _ upd_same (Same.upd hd _ _ upd_same) (Same.new (Same.new s1 hq) hd)
    | some n =>
      rw [hc] at k
      refine ⟨_, rfl, _, rfl, ifF (by rfl) ?_⟩
      refine ⟨_, rfl, _, rfl, a, vs, rfl, .inr (SqT.of (s1 _ _ ha)), rfl, _, rfl, ?_⟩
      have el : vs.length = ts.length := Paired.len hts
      have k' : match (if n = ts.length then none else some (Prob.width r)) with | none => ∀ H', Same H H' → Q .non H' | some q => ErrAt R H E q := k
      by_cases hn : n = ts.length
      · rw [if_pos hn] at k'
        refine ifF ?_ (k' _ s1)
        rw [el, hn]
        simp [colV]
      · rw [if_neg hn] at k'
        refine ifT ?_ ⟨_, rfl, few, fun q hq => ⟨_, rfl, fun d hd => ?_⟩⟩
        · rw [el]
          have z : ¬ V.int (n : Int) = V.int (ts.length : Int) := fun z => hn (by have := V.int.inj z; omega)
          show (!decide (V.int (n : Int) = V.int (ts.length : Int))) = true
          rw [decide_eq_false z]
          rfl
        · exact k' d q _ upd_same (Same.upd hd _ _ upd_same) (Same.new (Same.new s1 hq) hd)
theorem scTerms : FnScope ["terms", "known", "lets_any", "term"] ["terms", "known", "lets_any"] (defScope sTerms) := ⟨rfl, rfl, rfl, by decide +kernel, rfl, by decide +kernel, by decide +kernel⟩
theorem ok_terms (T : Txt P K mg A D) (TR : RefTxt P K mg R) : FnOk P w K mg base (L2.CX P w) 1 (A .terms) (D .terms) ["terms", "known", "lets_any"] (spTerms R) := by
  refine T.terms.F.okX scTerms (fun vs H Q E h => ?_) (fun cdv Ar outer s H vs Q E hr h => ?_)
  · obtain ⟨v, b, lets, ts, xs, rfl, _⟩ := h
    rfl
  · obtain ⟨v, b, lets, ts, xs, rfl, ht, hb, k⟩ := h
    obtain ⟨a, vs, rfl, ha, hts, hz⟩ := id ht
    obtain ⟨l, rfl, hl⟩ := id hb
    refine ⟨_, pss_one (ps_for (passes_of rfl) rfl (pi_tup (pv 0)) (pg_name (i := 3) scTerms.nd rfl (Or.inl rfl))
      (pss_cons (ps_if (PW.pt (pw_and (pt_cmpR op_eq (pe_ix ix_tup (pv 3) pe_int (fun _ _ => rfl)) pe_str (nomark _)) (pw_and1 (pt_not (pt_val (pv 2))))))
        (pss_one (ps_raiseRef rfl TR hr (takes_of rfl rfl rfl rfl) (pa_cons (pe_tup (pa_cons pe_str pa_nil)) pa_nil))) pss_nil)
      (pss_one (ps_if (PW.pt (pw_and (pt_cmpR op_eq (pe_ix ix_tup (pv 3) pe_int (fun _ _ => rfl)) pe_str (nomark _)) (pw_and1 (pt_cmpR op_notIn_seq (pe_ix ix_tup (pv 3) pe_int (fun _ _ => rfl)) (pv 1) (by rfl)))))
        (pss_one (ps_raiseRef rfl TR hr (takes_of rfl rfl rfl rfl) (pa_cons (pe_tup (pa_cons pe_str (pa_cons (pe_ix ix_tup (pv 3) pe_int (fun _ _ => rfl)) pa_nil))) pa_nil))) pss_nil)))), ?_⟩
    refine ⟨_, rfl, a, rfl, ⟨_, SqT.of ha⟩, for_tup (K := K) (a := a) (xs := vs) (fun i σ H1 => (∃ v3 : Option V, σ = [some (.ref a), some (.ref l), some (.bl lets), v3]) ∧ H1 = H ∧ loose xs lets ts = loose xs lets (ts.drop i))
      ⟨⟨_, rfl⟩, rfl, rfl⟩ (fun i σ H1 _ p => by rw [p.2.1]; exact SqT.of ha) ?_ ?_⟩
    · rintro i x σ H1 hi ⟨⟨v3, rfl⟩, rfl, hp⟩
      obtain ⟨t, ht', b', rfl, hb'⟩ := Paired.get hts hi
      rw [drop_more ht'] at hp
      cases t with
      | any =>
        refine ⟨_, rfl, b', _, _, _, rfl, rfl, SqT.of hb', by rfl, rfl, _, rfl, ifT (by decide +kernel) ⟨_, rfl, _, rfl, ?_⟩⟩
        cases lets with
        | false =>
          have e : loose xs false ts = some .any := hp
          rw [e] at k
          exact iteT ⟨few, fun q hq => ⟨_, rfl, fun d hd => k d q _ upd_same (Same.upd hd _ _ upd_same) (Same.new (Same.upd hq) hd)⟩⟩
        | true =>
          refine iteF ?_
          refine ⟨_, rfl, b', _, _, _, rfl, rfl, SqT.of hb', by rfl, rfl, _, rfl, ifF (by decide +kernel) ?_⟩
          exact ⟨⟨_, rfl⟩, rfl, hp⟩
      | val u =>
        refine ⟨_, rfl, b', _, _, _, rfl, rfl, SqT.of hb', by rfl, rfl, _, rfl, ifF (by decide +kernel) ?_⟩
        refine ⟨_, rfl, b', _, _, _, rfl, rfl, SqT.of hb', by rfl, rfl, _, rfl, ifF (by decide +kernel) ?_⟩
        exact ⟨⟨_, rfl⟩, rfl, hp⟩
      | var z =>
        refine ⟨_, rfl, b', _, _, _, rfl, rfl, SqT.of hb', by rfl, rfl, _, rfl, ifF (by decide +kernel) ?_⟩
        refine ⟨_, rfl, b', _, _, _, rfl, rfl, SqT.of hb', by rfl, rfl, _, rfl, ifT (by decide +kernel) ?_⟩
        refine ⟨_, rfl, b', _, _, _, rfl, rfl, SqT.of hb', by rfl, _, rfl, l, _, rfl, .inl (SqL.of hl), rfl, flat_strs _, _, rfl, ?_⟩
        rw [inV_strs]
        show if (!decide (z ∈ xs)) = true then _ else _
        have hp' : loose xs lets ts = if z ∈ xs then loose xs lets (ts.drop (i + 1)) else some (.unb z) := hp
        by_cases hm : z ∈ xs
        · rw [decide_eq_true hm]
          rw [if_pos hm] at hp'
          exact iteF ⟨⟨_, rfl⟩, rfl, hp'⟩
        · rw [decide_eq_false hm]
          rw [if_neg hm] at hp'
          rw [hp'] at k
          refine iteT ⟨_, rfl, b', _, _, _, rfl, rfl, SqT.of hb', by rfl, few, fun q hq => ⟨_, rfl, fun d hd => ?_⟩⟩
          exact k d q _ upd_same (Same.upd hd _ _ upd_same) (Same.new (Same.upd hq) hd)
    · rintro σ H1 ⟨⟨v3, rfl⟩, rfl, hp⟩
      have e : vs.length = ts.length := Paired.len hts
      rw [e, List.drop_length] at hp
      have e2 : loose xs lets ts = none := hp
      rw [e2] at k
      exact k _ (L2.Same.refl _)
theorem scLit : FnScope ["state", "literal", "known"] ["state", "literal", "known"] (defScope sLit) := ⟨rfl, rfl, rfl, by decide +kernel, rfl, by decide +kernel, by decide +kernel⟩
theorem nw4 : ¬ (HT.sIx 4 0 (some (2 : Int)) = 0 ∧ HT.sIx 4 4 none = 4) := by decide +kernel
theorem nw5 : ¬ (HT.sIx 5 0 (some (3 : Int)) = 0 ∧ HT.sIx 5 5 none = 5) := by decide +kernel
theorem cutT2 {x y z u : V} : cutV [x, y, z, u] (some (2 : Int)) none = [z, u] := by rfl
theorem cutT3 {x y z u v : V} : cutV [x, y, z, u, v] (some (3 : Int)) none = [u, v] := by rfl
theorem ok_lit (T : Txt P K mg A D) (S : StC K mg C) (TR : RefTxt P K mg R) : FnOk P w K mg base (L2.CX P w) 3 (A .lit) (D .lit) ["state", "literal", "known"] (spLit C R rels rus dens) := by
  have GA : FnOk P w K mg base (L2.CX P w) 2 _ _ _ (spAtom C R rels rus dens) := ok_atom T S TR
  have GT : FnOk P w K mg base (L2.CX P w) 1 _ _ _ (spTerms R) := ok_terms T TR
  have GV : FnOk P w K mg base CX0 1 _ _ _ spVars := ok_vars T
  refine T.lit.F.okX scLit (fun vs H Q E h => ?_) (fun cdv Ar outer s H vs Q E hr h => ?_)
  · obtain ⟨p, lv, b, l, xs, rfl, _⟩ := h
    rfl
  · obtain ⟨p, lv, b, l, xs, rfl, O, hl, hb, k⟩ := h
    have hr1 := hr.mono (j := 1) (by decide)
    refine ⟨_, pss_cons (ps_if (pt_cmpR op_eq (pe_ix ix_tup (pv 1) pe_int (fun _ _ => rfl)) pe_str (nomark _))
        (pss_cons (ps_expr (pe_call GA hr (by rfl) T.atom.g T.atom.kp T.atom.b .nil (passes_call (takes_of rfl rfl rfl rfl) (fun _ _ _ _ z => z)) (pa_cons (pv 0) (pa_cons (pe_ix ix_tup (pv 1) pe_int (fun _ _ => rfl)) (pa_cons (pe_ix ix_tup (pv 1) pe_int (fun _ _ => rfl)) pa_nil)))))
        (pss_one (ps_ret (pe_call GV hr1 (by rfl) T.vars.g T.vars.kp T.vars.b .nil pass0 (pa_cons (pe_ix ix_tup (pv 1) pe_int (fun _ _ => rfl)) pa_nil))))) pss_nil)
      (pss_cons (ps_if (pt_cmpR op_eq (pe_ix ix_tup (pv 1) pe_int (fun _ _ => rfl)) pe_str (nomark _))
        (pss_cons (ps_expr (pe_call GA hr (by rfl) T.atom.g T.atom.kp T.atom.b .nil (passes_call (takes_of rfl rfl rfl rfl) (fun _ _ _ _ z => z)) (pa_cons (pv 0) (pa_cons (pe_ix ix_tup (pv 1) pe_int (fun _ _ => rfl)) (pa_cons (pe_ix ix_tup (pv 1) pe_int (fun _ _ => rfl)) pa_nil)))))
        (pss_cons (ps_expr (pe_call GT hr1 (by rfl) T.terms.g T.terms.kp T.terms.b .nil (passes_call (takes_of rfl rfl rfl rfl) (fun _ _ _ _ z => z)) (pa_cons (pe_ix ix_tup (pv 1) pe_int (fun _ _ => rfl)) (pa_cons (pv 2) (pa_cons pe_bl pa_nil)))))
        (pss_one (ps_ret (pe_lst pa_nil))))) pss_nil)
      (pss_cons (ps_if (pt_cmpR op_eq (pe_ix ix_tup (pv 1) pe_int (fun _ _ => rfl)) pe_str (nomark _))
        (pss_cons (ps_expr (pe_call GT hr1 (by rfl) T.terms.g T.terms.kp T.terms.b .nil (passes_call (takes_of rfl rfl rfl rfl) (fun _ _ _ _ z => z)) (pa_cons (pe_slice sl_tup (pv 1) (po_some pe_int) po_none) (pa_cons (pv 2) (pa_cons pe_bl pa_nil)))))
        (pss_one (ps_ret (pe_lst pa_nil)))) pss_nil)
      (pss_cons (ps_if (pt_cmpR op_eq (pe_ix ix_tup (pv 1) pe_int (fun _ _ => rfl)) pe_str (nomark _))
        (pss_cons (ps_expr (pe_call GT hr1 (by rfl) T.terms.g T.terms.kp T.terms.b .nil (passes_call (takes_of rfl rfl rfl rfl) (fun _ _ _ _ z => z)) (pa_cons (pe_slice sl_tup (pv 1) (po_some pe_int) po_none) (pa_cons (pv 2) (pa_cons pe_bl pa_nil)))))
        (pss_one (ps_ret (pe_lst (pa_cons (pe_ix ix_tup (pv 1) pe_int (fun _ _ => rfl)) pa_nil))))) pss_nil)
      (pss_cons (ps_expr (pe_call GA hr (by rfl) T.atom.g T.atom.kp T.atom.b .nil (passes_call (takes_of rfl rfl rfl rfl) (fun _ _ _ _ z => z)) (pa_cons (pv 0) (pa_cons (pe_ix ix_tup (pv 1) pe_int (fun _ _ => rfl)) (pa_cons (pe_ix ix_tup (pv 1) pe_int (fun _ _ => rfl)) pa_nil)))))
      (pss_cons (ps_if (pt_cmpR op_in_seq (pe_ix ix_tup (pv 1) pe_int (fun _ _ => rfl)) (pe_call GV hr1 (by rfl) T.vars.g T.vars.kp T.vars.b .nil pass0 (pa_cons (pe_ix ix_tup (pv 1) pe_int (fun _ _ => rfl)) pa_nil)) (by rfl))
        (pss_one (ps_raiseRef rfl TR hr (takes_of rfl rfl rfl rfl) (pa_cons (pe_tup (pa_cons pe_str (pa_cons (pe_ix ix_tup (pv 1) pe_int (fun _ _ => rfl)) pa_nil))) pa_nil))) pss_nil)
      (pss_one (ps_ret (pe_lst (pa_cons (pe_ix ix_tup (pv 1) pe_int (fun _ _ => rfl)) pa_nil))))))))), ?_⟩
    obtain ⟨bl, rfl, hbl⟩ := id hb
    cases l with
    | fact r ts =>
      obtain ⟨a, tv, rfl, ha, ht⟩ := id hl
      refine ⟨_, rfl, a, _, _, _, rfl, rfl, SqT.of ha, by rfl, rfl, _, rfl, ifT (by decide +kernel) ?_⟩
      refine ⟨_, rfl, _, rfl, a, _, _, _, rfl, rfl, SqT.of ha, by rfl, _, rfl, a, _, _, _, rfl, rfl, SqT.of ha, by rfl, p, r, tv, ts, rfl, O, ht, ?_⟩
      have k' : match atomP (cols rels rus) r ts with | none => ∀ v' H', NewNm H H' v' (Lit.fact r ts).binds → Same H H' → Q v' H' | some q => ErrAt R H E q := k
      cases hp : atomP (cols rels rus) r ts with
      | some q =>
        rw [hp] at k'
        exact k'
      | none =>
        rw [hp] at k'
        refine fun H1 s1 => ?_
        refine ⟨_, rfl, a, _, _, _, rfl, rfl, SqT.of (s1 _ _ ha), by rfl, tv, ts, rfl, ht.tu (Tu.same s1), fun v' H2 n2 s2 => ?_⟩
        exact k' _ _ (n2.old s1) (L2.Same.trans s1 s2)
    | neg r ts =>
      obtain ⟨a, tv, rfl, ha, ht⟩ := id hl
      refine ⟨_, rfl, a, _, _, _, rfl, rfl, SqT.of ha, by rfl, rfl, _, rfl, ifF (by decide +kernel) ?_⟩
      refine ⟨_, rfl, a, _, _, _, rfl, rfl, SqT.of ha, by rfl, rfl, _, rfl, ifT (by decide +kernel) ?_⟩
      refine ⟨_, rfl, _, rfl, a, _, _, _, rfl, rfl, SqT.of ha, by rfl, _, rfl, a, _, _, _, rfl, rfl, SqT.of ha, by rfl, p, r, tv, ts, rfl, O, ht, ?_⟩
      have k' : match (match atomP (cols rels rus) r ts with | some p => some p | none => loose xs true ts) with | none => ∀ v' H', NewNm H H' v' [] → Same H H' → Q v' H' | some q => ErrAt R H E q := k
      cases hp : atomP (cols rels rus) r ts with
      | some q =>
        rw [hp] at k'
        exact k'
      | none =>
        rw [hp] at k'
        refine fun H1 s1 => ?_
        refine ⟨_, rfl, a, _, _, _, rfl, rfl, SqT.of (s1 _ _ ha), by rfl, _, rfl, tv, .ref bl, true, ts, xs, rfl, ht.tu (Tu.same s1), ⟨bl, rfl, s1 _ _ hbl⟩, ?_⟩
        have k2 : match loose xs true ts with | none => ∀ v' H', NewNm H H' v' [] → Same H H' → Q v' H' | some q => ErrAt R H E q := k'
        cases hq : loose xs true ts with
        | some q =>
          rw [hq] at k2
          exact ErrAt.old s1 k2
        | none =>
          rw [hq] at k2
          exact fun H2 s2 => ⟨few, fun q hq => k2 _ _ ⟨q, rfl, (L2.Same.trans s1 s2).free hq, upd_same⟩ (Same.new (L2.Same.trans s1 s2) hq)⟩
    | cmp o t u =>
      obtain ⟨a, tv, uv, rfl, ha, ht, hu'⟩ := id hl
      refine ⟨_, rfl, a, _, _, _, rfl, rfl, SqT.of ha, by rfl, rfl, _, rfl, ifF (by decide +kernel) ?_⟩
      refine ⟨_, rfl, a, _, _, _, rfl, rfl, SqT.of ha, by rfl, rfl, _, rfl, ifF (by decide +kernel) ?_⟩
      refine ⟨_, rfl, a, _, _, _, rfl, rfl, SqT.of ha, by rfl, rfl, _, rfl, ifT (by decide +kernel) ?_⟩
      refine ⟨_, rfl, _, rfl, a, _, rfl, SqT.of ha, nw4, fun q hq => ⟨_, rfl, .ref q, .ref bl, false, [t, u], xs, rfl, ?_, ?_, ?_⟩⟩
      · have tu := Tu.upd (o := .tup [tv, uv]) hq
        exact ⟨q, [tv, uv], rfl, upd_same, .cons (ht.tu tu) (.cons (hu'.tu tu) .nil), by show 2 ≤ 100; decide⟩
      · exact ⟨bl, rfl, Same.upd hq _ _ hbl⟩
      · have k2 : match loose xs false [t, u] with | none => ∀ v' H', NewNm H H' v' [] → Same H H' → Q v' H' | some q => ErrAt R H E q := k
        have s1 : ∀ o, Same H (L2.upd H q o) := fun o => Same.upd hq
        cases hq : loose xs false [t, u] with
        | some q =>
          rw [hq] at k2
          exact ErrAt.old (s1 _) k2
        | none =>
          rw [hq] at k2
          exact fun H2 s2 => ⟨few, fun q hq => k2 _ _ ⟨q, rfl, (L2.Same.trans (s1 _) s2).free hq, upd_same⟩ (Same.new (L2.Same.trans (s1 _) s2) hq)⟩
    | is x o t u =>
      obtain ⟨a, tv, uv, rfl, ha, ht, hu'⟩ := id hl
      refine ⟨_, rfl, a, _, _, _, rfl, rfl, SqT.of ha, by rfl, rfl, _, rfl, ifF (by decide +kernel) ?_⟩
      refine ⟨_, rfl, a, _, _, _, rfl, rfl, SqT.of ha, by rfl, rfl, _, rfl, ifF (by decide +kernel) ?_⟩
      refine ⟨_, rfl, a, _, _, _, rfl, rfl, SqT.of ha, by rfl, rfl, _, rfl, ifF (by decide +kernel) ?_⟩
      refine ⟨_, rfl, a, _, _, _, rfl, rfl, SqT.of ha, by rfl, rfl, _, rfl, ifT (by decide +kernel) ?_⟩
      refine ⟨_, rfl, _, rfl, a, _, rfl, SqT.of ha, nw5, fun q hq => ⟨_, rfl, .ref q, .ref bl, false, [t, u], xs, rfl, ?_, ?_, ?_⟩⟩
      · have tu := Tu.upd (o := .tup [tv, uv]) hq
        exact ⟨q, [tv, uv], rfl, upd_same, .cons (ht.tu tu) (.cons (hu'.tu tu) .nil), by show 2 ≤ 100; decide⟩
      · exact ⟨bl, rfl, Same.upd hq _ _ hbl⟩
      · have k2 : match loose xs false [t, u] with | none => ∀ v' H', NewNm H H' v' [x] → Same H H' → Q v' H' | some q => ErrAt R H E q := k
        have s1 : ∀ o, Same H (L2.upd H q o) := fun o => Same.upd hq
        cases hq : loose xs false [t, u] with
        | some q =>
          rw [hq] at k2
          exact ErrAt.old (s1 _) k2
        | none =>
          rw [hq] at k2
          refine fun H2 s2 => ⟨_, rfl, a, _, _, _, rfl, rfl, SqT.of (s2 _ _ (s1 _ _ _ ha)), by rfl, few, fun q hq => k2 _ _ ⟨q, rfl, (L2.Same.trans (s1 _) s2).free hq, upd_same⟩ (Same.new (L2.Same.trans (s1 _) s2) hq)⟩
    | cnt x r ts =>
      obtain ⟨a, tv, rfl, ha, ht⟩ := id hl
      refine ⟨_, rfl, a, _, _, _, rfl, rfl, SqT.of ha, by rfl, rfl, _, rfl, ifF (by decide +kernel) ?_⟩
      refine ⟨_, rfl, a, _, _, _, rfl, rfl, SqT.of ha, by rfl, rfl, _, rfl, ifF (by decide +kernel) ?_⟩
      refine ⟨_, rfl, a, _, _, _, rfl, rfl, SqT.of ha, by rfl, rfl, _, rfl, ifF (by decide +kernel) ?_⟩
      refine ⟨_, rfl, a, _, _, _, rfl, rfl, SqT.of ha, by rfl, rfl, _, rfl, ifF (by decide +kernel) ?_⟩
      refine ⟨_, rfl, _, rfl, a, _, _, _, rfl, rfl, SqT.of ha, by rfl, _, rfl, a, _, _, _, rfl, rfl, SqT.of ha, by rfl, p, r, tv, ts, rfl, O, ht, ?_⟩
      have k' : match (match atomP (cols rels rus) r ts with | some p => some p | none => if x ∈ vars ts then some (Prob.own x) else none) with | none => ∀ v' H', NewNm H H' v' [x] → Same H H' → Q v' H' | some q => ErrAt R H E q := k
      cases hp : atomP (cols rels rus) r ts with
      | some q =>
        rw [hp] at k'
        exact k'
      | none =>
        rw [hp] at k'
        have k2 : match (if x ∈ vars ts then some (Prob.own x) else none) with | none => ∀ v' H', NewNm H H' v' [x] → Same H H' → Q v' H' | some q => ErrAt R H E q := k'
        refine fun H1 s1 => ?_
        refine ⟨_, rfl, a, _, _, _, rfl, rfl, SqT.of (s1 _ _ ha), by rfl, _, rfl, a, _, _, _, rfl, rfl, SqT.of (s1 _ _ ha), by rfl, tv, ts, rfl, ht.tu (Tu.same s1), fun v' H2 n2 s2 => ?_⟩
        obtain ⟨vl, rfl, _, hvl⟩ := n2
        have s3 := L2.Same.trans s1 s2
        refine ⟨vl, _, rfl, .inl (SqL.of hvl), rfl, flat_strs _, _, rfl, ?_⟩
        rw [inV_strs]
        show if decide (x ∈ vars ts) = true then _ else _
        by_cases hm : x ∈ vars ts
        · rw [if_pos hm] at k2
          refine ifT (decide_eq_true hm) ⟨_, rfl, a, _, _, _, rfl, rfl, SqT.of (s3 _ _ ha), by rfl, few, fun q hq => ⟨_, rfl, fun d hd => ?_⟩⟩
          exact k2 d q _ upd_same (Same.upd hd _ _ upd_same) (Same.new (Same.new s3 hq) hd)
        · rw [if_neg hm] at k2
          refine ifF (decide_eq_false hm) ⟨_, rfl, a, _, _, _, rfl, rfl, SqT.of (s3 _ _ ha), by rfl, few, fun q hq => ?_⟩
          exact k2 _ _ ⟨q, rfl, s3.free hq, upd_same⟩ (Same.new s3 hq)
end
end K21

set_option Elab.async false
set_option linter.all false
set_option maxRecDepth 100000
set_option maxHeartbeats 4000000
namespace K21
open PySem PySem.Spec PyProof.Rows L2
theorem lineB {n : Nat} (h : n ≤ 20000) : n < sizeLine := Nat.lt_of_le_of_lt h (by rw [sizeLine_eq]; decide)
theorem LitAt.binds_len {H : Hp} {v : V} {l : Lit} (h : LitAt H v l) : l.binds.length ≤ 100 := by
  cases l with
  | fact r ts =>
    obtain ⟨a, tv, rfl, ha, b, vs, rfl, hb, hts, hz⟩ := h
    exact Nat.le_trans (vars_len ts) hz
  | neg r ts => exact Nat.zero_le _
  | cmp o t u => exact Nat.zero_le _
  | is x o t u => show 1 ≤ 100; decide
  | cnt x r ts => show 1 ≤ 100; decide
section
variable {P : Program} {w : World} {K : PySem.W.Frag} {mg : Str → Option Value} {base : Heap} {A : Nm → Addr} {D : Nm → FuncData} {C R : Addr} {rels : List (Str × Nat)} {rus : List Rul} {dens : List Str}
theorem scBody : FnScope ["state", "body", "known", "literal", "variable"] ["state", "body"] (defScope sBody) := ⟨rfl, rfl, rfl, by decide +kernel, rfl, by decide +kernel, by decide +kernel⟩
theorem ok_body (T : Txt P K mg A D) (S : StC K mg C) (TR : RefTxt P K mg R) : FnOk P w K mg base (L2.CX P w) 4 (A .body) (D .body) ["state", "body"] (spBody C R rels rus dens) := by
  have GL : FnOk P w K mg base (L2.CX P w) 3 _ _ _ (spLit C R rels rus dens) := ok_lit T S TR
  refine T.body.F.okX scBody (fun vs H Q E h => ?_) (fun cdv Ar outer s H vs Q E hr h => ?_)
  · obtain ⟨p, bv, ls, rfl, _⟩ := h
    rfl
  · obtain ⟨p, bv, ls, rfl, O, hb, k⟩ := h
    obtain ⟨a, vs, rfl, ha, hls, hz⟩ := id hb
    refine ⟨_, pss_cons (ps_set (i := 2) scBody.nd rfl (Or.inl rfl) (pe_lst pa_nil))
      (pss_cons (ps_for (passes_of rfl) rfl (pi_tup (pv 1)) (pg_name (i := 3) scBody.nd rfl (Or.inl rfl))
        (pss_one (ps_for (passes_of rfl) rfl (pi_list (pe_call GL hr (by rfl) T.lit.g T.lit.kp T.lit.b .nil (passes_call (takes_of rfl rfl rfl rfl) (fun _ _ _ _ z => z)) (pa_cons (pv 0) (pa_cons (pv 3) (pa_cons (pv 2) pa_nil))))) (pg_name (i := 4) scBody.nd rfl (Or.inl rfl))
          (pss_one (ps_if (pt_cmpR op_notIn_seq (pv 4) (pv 2) (by rfl))
            (pss_one (ps_expr (pe_bm PySem.F.plainAttrs_list PySem.F.slot_list_append PySem.F.type_list_append mt_append (pv 2) (pa_cons (pv 4) pa_nil)))) pss_nil)))))
      (pss_one (ps_ret (pe_callTy call_tuple_of (by rfl) T.tuple (by decide +kernel) (pa_cons (pv 2) pa_nil))))), ?_⟩
    refine ⟨few, fun d hd => ?_⟩
    have keep : ∀ {H1 : Hp} {o : HO}, Same H H1 → Same H (L2.upd H1 d o) := fun {H1 o} e b u q => by
      rw [upd_ne (ne_of_none q hd)]
      exact e _ _ q
    refine ⟨_, rfl, a, rfl, ⟨_, SqT.of (Same.upd hd _ _ ha)⟩, for_tup (K := K) (a := a) (xs := vs)
      (fun i σ H1 => ∃ (v3 v4 : Option V) (xs : List Str), σ = [some (.ref p), some (.ref a), some (.ref d), v3, v4] ∧ Same H H1 ∧ H1 d = some (.lst (xs.map V.str)) ∧ bodyProb (cols rels rus) [] ls = bodyProb (cols rels rus) xs (ls.drop i) ∧ xs.length ≤ 100 * i)
      ⟨none, none, [], rfl, Same.upd hd, upd_same, rfl, Nat.le_refl _⟩ (fun i σ H1 _ ⟨_, _, _, _, s1, _⟩ => SqT.of (s1 _ _ ha)) ?_ ?_⟩
    · rintro i lv σ H1 hi ⟨v3, v4, xs, rfl, s1, d1, hp, hx⟩
      obtain ⟨l, hl, q⟩ := Paired.get hls hi
      have il : i < ls.length := (List.getElem?_eq_some_iff.mp hl).1
      rw [drop_more hl] at hp
      have hp' : bodyProb (cols rels rus) [] ls = match litProb (cols rels rus) xs l with | some p => (some p, xs) | none => bodyProb (cols rels rus) (addAll xs l.binds) (ls.drop (i + 1)) := hp
      have q1 := q.tu (Tu.same s1)
      have hbl := q1.binds_len
      refine ⟨_, rfl, _, rfl, _, rfl, p, lv, .ref d, l, xs, rfl, O.same s1, q1, ⟨d, rfl, d1⟩, ?_⟩
      cases hlp : litProb (cols rels rus) xs l with
      | some pr =>
        rw [hlp] at hp'
        rw [hp'] at k
        exact ErrAt.old s1 k
      | none =>
        rw [hlp] at hp'
        rintro v' H2 ⟨b, rfl, nb, hbn⟩ s2
        have s3 := L2.Same.trans s1 s2
        have hne : b ≠ d := by
          rintro rfl
          rw [d1] at nb
          cases nb
        refine ⟨b, rfl, ⟨_, SqL.of hbn⟩, for_list (K := K) (a := b) (xs := l.binds.map V.str)
          (fun j σ H3 => ∃ (v4 : Option V), σ = [some (.ref p), some (.ref a), some (.ref d), some lv, v4] ∧ Same H H3 ∧ H3 b = some (.lst (l.binds.map V.str)) ∧ H3 d = some (.lst ((addAll xs (l.binds.take j)).map V.str)))
          ⟨_, rfl, s3, hbn, s2 _ _ d1⟩ (fun j σ H3 _ ⟨_, _, _, q, _⟩ => SqL.of q) ?_ ?_⟩
        · rintro j y σ H3 hj ⟨v4, rfl, s4, b4, d4⟩
          rw [List.getElem?_map] at hj
          cases hy : l.binds[j]? with
          | none => rw [hy] at hj; cases hj
          | some nm =>
            rw [hy] at hj
            have ey : V.str nm = y := Option.some.inj hj
            subst ey
            have more := addAll_more (xs := xs) hy
            have hlen : ((addAll xs (l.binds.take j)).map V.str).length < sizeLine := by
              rw [List.length_map]
              have h1 := addAll_len xs (l.binds.take j)
              have h2 : (l.binds.take j).length ≤ l.binds.length := by rw [List.length_take]; exact Nat.min_le_right _ _
              exact lineB (by omega)
            refine ⟨_, rfl, _, rfl, d, _, rfl, .inl (SqL.of d4), rfl, flat_strs _, _, rfl, ?_⟩
            rw [inV_strs]
            show if (!decide (nm ∈ addAll xs (l.binds.take j))) = true then _ else _
            by_cases hm : nm ∈ addAll xs (l.binds.take j)
            · rw [decide_eq_true hm]
              rw [if_pos hm] at more
              refine iteF ⟨_, rfl, s4, b4, ?_⟩
              rw [more]
              exact d4
            · rw [decide_eq_false hm]
              rw [if_neg hm] at more
              refine iteT ⟨_, rfl, .inl ⟨rfl, _, SqL.of d4⟩, _, rfl, d, _, _, rfl, rfl, d4, hlen, _, rfl, keep s4, by rw [upd_ne hne]; exact b4, ?_⟩
              rw [upd_same, more, List.map_append]
              rfl
        · rintro σ H3 ⟨v4, rfl, s4, b4, d4⟩
          rw [List.length_map, List.take_length] at d4
          refine ⟨_, _, _, rfl, s4, d4, hp', ?_⟩
          have h1 := addAll_len xs l.binds
          omega
    · rintro σ H1 ⟨v3, v4, xs, rfl, s1, d1, hp, hx⟩
      have e : vs.length = ls.length := Paired.len hls
      rw [e, List.drop_length] at hp
      have hp' : bodyProb (cols rels rus) [] ls = (none, xs) := hp
      rw [hp'] at k
      refine ⟨_, rfl, d, _, rfl, .inl ⟨SqL.of d1, fun q hq => ?_⟩⟩
      exact k q _ upd_same (Same.new s1 hq)
theorem scDenial : FnScope ["state", "name", "body"] ["state", "name", "body"] (defScope sDenial) := ⟨rfl, rfl, rfl, by decide +kernel, rfl, by decide +kernel, by decide +kernel⟩
theorem val_keys : ∀ {dk : List (Key × V)} {dens : List Str} (n : Str), dk.map (·.1) = dens.map Sum.inr → (valV dk (Sum.inr n)).isSome = decide (n ∈ dens)
  | [], [], n, _ => by simp [valV]
  | [], _ :: _, _, h => by simp at h
  | _ :: _, [], _, h => by simp at h
  | kv :: r, x :: l, n, h => by
    rw [List.map_cons, List.map_cons] at h
    injection h with h1 h2
    by_cases e : x = n
    · subst e
      rw [valV_pos h1]
      simp
    · rw [valV_neg (by rw [h1]; exact fun z => e (Sum.inr.inj z)), val_keys n h2]
      have e' : ¬ n = x := fun z => e z.symm
      simp [e']
theorem ok_denial (T : Txt P K mg A D) (S : StC K mg C) (TR : RefTxt P K mg R) : FnOk P w K mg base (L2.CX P w) 5 (A .denial) (D .denial) ["state", "name", "body"] (spDenial C R rels rus dens) := by
  have GB : FnOk P w K mg base (L2.CX P w) 4 _ _ _ (spBody C R rels rus dens) := ok_body T S TR
  refine T.denial.F.okX scDenial (fun vs H Q E h => ?_) (fun cdv Ar outer s H vs Q E hr h => ?_)
  · obtain ⟨p, n, bv, ls, rfl, _⟩ := h
    rfl
  · obtain ⟨p, n, bv, ls, rfl, O, hb, k⟩ := h
    have hu := hu_of hr
    obtain ⟨⟨dx, dr, df, du, dd, ruk, dk, h1, h2, h3, h4, h5, h6⟩, few', one', nd'⟩ := id O
    refine ⟨_, pss_cons (ps_if (pt_cmp (pc_din hu (pv 1) (pe_fld (pv 0) rfl)))
        (pss_one (ps_raiseRef rfl TR hr (takes_of rfl rfl rfl rfl) (pa_cons (pe_tup (pa_cons pe_str (pa_cons pe_str (pa_cons (pv 1) pa_nil)))) pa_nil))) pss_nil)
      (pss_one (ps_expr (pe_call GB hr (by rfl) T.body.g T.body.kp T.body.b .nil (passes_call (takes_of rfl rfl rfl rfl) (fun _ _ _ _ z => z)) (pa_cons (pv 0) (pa_cons (pv 2) pa_nil))))), ?_⟩
    refine ⟨_, rfl, _, rfl, p, C, dx, _, _, rfl, h1, S.cl, S.nD, fld_d, dd, _, rfl, DGet.k (k := Sum.inr n) h5, _, rfl, ?_⟩
    rw [val_keys n h6]
    by_cases hn : n ∈ dens
    · rw [if_pos hn] at k
      refine ifT (decide_eq_true hn) ⟨_, rfl, few, fun q hq => ⟨_, rfl, fun d hd => ?_⟩⟩
      exact k d q _ upd_same (Same.upd hd _ _ upd_same) (Same.new (Same.upd hq) hd)
    · rw [if_neg hn] at k
      refine ifF (decide_eq_false hn) ⟨_, rfl, _, rfl, p, bv, ls, rfl, O, hb, ?_⟩
      revert k
      cases bodyProb (cols rels rus) [] ls with
      | mk o xs =>
        cases o with
        | none => exact fun k a H' _ s' => k _ s'
        | some q => exact fun k => k
end
end K21

set_option Elab.async false
set_option linter.all false
set_option maxRecDepth 100000
set_option maxHeartbeats 4000000
namespace K21
open PySem PySem.Spec PyProof.Rows L2
theorem yesT {σ : L2.St} {H : Hp} {A B : Hp → Prop} (h : A H) : tYes σ H (fun b H3 => if b = true then A H3 else B H3) := by
  show if true = true then A H else B H
  rw [if_pos rfl]
  exact h
theorem pair2 {H : Hp} {vs : List V} {ts : List Tm} (h : TmsAt H vs ts) (hl : ts.length = 2) : ∃ w1 w2 y1 y2, vs = [w1, w2] ∧ ts = [y1, y2] ∧ TmAt H w1 y1 ∧ TmAt H w2 y2 := by
  cases h with
  | nil => cases hl
  | cons q1 h =>
    cases h with
    | nil => cases hl
    | cons q2 h =>
      cases h with
      | nil => exact ⟨_, _, _, _, rfl, rfl, q1, q2⟩
      | cons q3 h => simp at hl
/-- the widths, a dict -/
structure WdAt (H : Hp) (a : Addr) (ws : List (Str × Nat)) : Prop where
  at_ : H a = some (.dK (relK ws))
  pos : ws ≠ []
  few : ws.length ≤ 20
  wid : ∀ x ∈ ws, 1 ≤ x.2 ∧ x.2 ≤ 4
theorem WdAt.fr {H H' : Hp} {st c a : Addr} {ws : List (Str × Nat)} (h : WdAt H a ws) (s : StAt H st c) (e : Fr st H H') : WdAt H' a ws :=
  ⟨e _ _ h.at_ (by obtain ⟨cells, i, big, r, hs, _⟩ := s; exact ne_of h.at_ hs (by intro z; cases z)), h.pos, h.few, h.wid⟩
theorem WdAt.same {H H' : Hp} {a : Addr} {ws : List (Str × Nat)} (h : WdAt H a ws) (e : Same H H') : WdAt H' a ws := ⟨e _ _ h.at_, h.pos, h.few, h.wid⟩
theorem keys_relK (ws : List (Str × Nat)) : (relK ws).map (fun kv => kV kv.1) = (ws.map (·.1)).map V.str := by
  unfold relK
  rw [List.map_map, List.map_map]
  rfl
theorem lookup_mem : ∀ {ws : List (Str × Nat)} {r : Str}, r ∈ ws.map (·.1) → ∃ n, ws.lookup r = some n ∧ (r, n) ∈ ws
  | [], _, h => by simp at h
  | (y, n) :: l, r, h => by
    by_cases e : r = y
    · subst e
      exact ⟨n, by simp [List.lookup], List.mem_cons_self⟩
    · have e' : (r == y) = false := by simpa using e
      obtain ⟨m, h1, h2⟩ := lookup_mem (ws := l) (r := r) (by
        rw [List.map_cons, List.mem_cons] at h
        exact h.resolve_left e)
      exact ⟨m, by simp [List.lookup, e', h1], List.mem_cons_of_mem _ h2⟩
def spLiteral : Sp := fun vs H Q _ => ∃ (st c wd : Addr) (b : V) (xs : List Str) (ws : List (Str × Nat)), vs = [.ref st, .ref wd, b, .bl false] ∧ StAt H st c ∧ WdAt H wd ws ∧ NmAt H b xs ∧ xs.length ≤ 100 ∧
  ∀ (v : V) (l : Lit) (H' : Hp), LitAt H' v l → l.binds.length ≤ 5 → StAt H' st c → Fr st H H' → Q v H'
abbrev nLit : List Str := ["_law_state", "_law_widths_here", "_law_bound", "_law_careful", "_law_names", "_law_relation", "_law_width", "_law_terms", "_law_form", "_law_pair", "_law_variable_here", "_law_k", "_law_term_here"]
section
variable {P : Program} {w : World} {K : PySem.W.Frag} {mg : Str → Option Value} {base : Heap} {A : Nm → Addr} {D : Nm → FuncData}
theorem scLiteral : FnScope nLit ["_law_state", "_law_widths_here", "_law_bound", "_law_careful"] (defScope sLiteral) := ⟨rfl, rfl, rfl, by decide +kernel, rfl, by decide +kernel, by decide +kernel⟩
/-- a list of terms that grows at d -/
theorem TmsAt.fr {H H' : Hp} {st c : Addr} {vs : List V} {ts : List Tm} (h : TmsAt H vs ts) (s : StAt H st c) (e : Fr st H H') : TmsAt H' vs ts := TmsAt.tu (e.tu s) h
theorem TlAt.fr {H H' : Hp} {st c : Addr} {v : V} {ts : List Tm} (h : TlAt H v ts) (s : StAt H st c) (e : Fr st H H') : TlAt H' v ts := by
  obtain ⟨a, vs, rfl, ha, hts, hz⟩ := h
  refine ⟨a, vs, rfl, e _ _ ha ?_, TmsAt.fr hts s e, hz⟩
  rintro rfl
  obtain ⟨cells, i, big, r, hs, _⟩ := s
  rw [ha] at hs
  have z := HO.lst.inj (Option.some.inj hs)
  subst z
  cases hts with
  | cons q t =>
    cases t with
    | cons q2 t2 =>
      obtain ⟨x, hx, _⟩ := q2
      cases hx
/-- the element [t, ('any',)][int(..)] -/
theorem read_any {H1 : Hp} {F : PySem.W.Frag} {σ : L2.St} {v : V} {t : Tm} {b : Addr} {xs : List Str} {Q : VK} (h12 : σ[12]? = some (some v)) (h2 : σ[2]? = some (some (.ref b))) (hv : TmAt H1 v t) (hb : H1 b = some (.lst (xs.map V.str)))
    (k : ∀ (v' : V) (t' : Tm) (H' : Hp), TmAt H' v' t' → Same H1 H' → Q v' H') :
    (tOp (rIxL F) (tLst (tCons (tVar 12) (tCons (tTup (tCons (tC (.str "any")) tNil)) tNil)))
      (tCB (fun xs H Q => (∃ i, xs = [.int i] ∧ Q (.int i) H) ∨ ∃ k, xs = [.bl k] ∧ Q (.int (if k then 1 else 0)) H) (tCons (tAndV (tOp rEq (tOp (rIxT F) (tVar 12) (tC (.int 0))) (tC (.str "variable"))) (tOp (rIn F true) (tOp (rIxT F) (tVar 12) (tC (.int 1))) (tVar 2))) tNil))) σ H1 Q := by
  obtain ⟨a, rfl, ha⟩ := id hv
  refine ⟨_, h12, few, fun p hp => ⟨few, fun l hl => ?_⟩⟩
  have s1 : Same H1 (L2.upd (L2.upd H1 p (.tup [.str "any"])) l (.lst [.ref a, .ref p])) := Same.new (Same.upd hp) hl
  have ha1 := s1 _ _ ha
  have fin : ∀ c : Bool, rIxL F (.ref l) (.int (if c then 1 else 0)) (L2.upd (L2.upd H1 p (.tup [.str "any"])) l (.lst [.ref a, .ref p])) Q := by
    intro c
    cases c with
    | true => exact ⟨l, _, _, _, rfl, rfl, SqL.of upd_same, by rfl, k _ .any _ ⟨p, rfl, Same.upd hl _ _ upd_same⟩ s1⟩
    | false => exact ⟨l, _, _, _, rfl, rfl, SqL.of upd_same, by rfl, k _ t _ ⟨a, rfl, ha1⟩ s1⟩
  cases t with
  | any => exact ⟨_, h12, a, _, _, _, rfl, rfl, SqT.of ha1, by rfl, rfl, _, rfl, ifF (by decide +kernel) (.inr ⟨_, rfl, fin false⟩)⟩
  | val u => exact ⟨_, h12, a, _, _, _, rfl, rfl, SqT.of ha1, by rfl, rfl, _, rfl, ifF (by decide +kernel) (.inr ⟨_, rfl, fin false⟩)⟩
  | var z =>
    refine ⟨_, h12, a, _, _, _, rfl, rfl, SqT.of ha1, by rfl, rfl, _, rfl, ifT (by decide +kernel) ?_⟩
    exact ⟨_, h12, a, _, _, _, rfl, rfl, SqT.of ha1, by rfl, _, h2, b, _, rfl, .inl (SqL.of (s1 _ _ hb)), rfl, flat_strs _, .inr ⟨_, rfl, fin _⟩⟩
theorem ok_literal (T : Txt P K mg A D) : FnOk P w K mg base CX0 4 (A .literal) (D .literal) ["_law_state", "_law_widths_here", "_law_bound", "_law_careful"] spLiteral := by
  have GN : FnOk P w K mg base CX0 1 _ _ _ spNext := ok_next T
  have GT : FnOk P w K mg base CX0 3 _ _ _ spTerm := ok_term T
  have GV : FnOk P w K mg base CX0 2 _ _ _ spVariable := ok_variable T
  have GS : FnOk P w K mg base CX0 1 _ _ _ spSettled := ok_settled T
  refine T.literal.F.ok scLiteral (fun vs H Q E h => ?_) (fun cdv Ar outer s H vs Q E hr3 h => ?_)
  · obtain ⟨st, c, wd, b, xs, ws, rfl, _⟩ := h
    rfl
  · obtain ⟨st, c, wd, b, xs, ws, rfl, S, W, hb, hz, k⟩ := h
    have hr1 := hr3.mono (j := 1) (by decide)
    have hr2 := hr3.mono (j := 2) (by decide)
    have hu := hu_of hr3
    refine ⟨_, (pss_cons (ps_set (i := 4) scLiteral.nd rfl (Or.inl rfl) (pe_callB cr_sortedS (by rfl) T.sorted (by decide +kernel) (pa_cons (pe_callTy (call_list_dK rfl) (by rfl) T.list (by decide +kernel) (pa_cons (pv 1) pa_nil)) pa_nil)))
      (pss_cons (ps_set (i := 5) scLiteral.nd rfl (Or.inl rfl) (pe_ix ix_list (pv 4) (pe_call GN hr1 (by rfl) T.next.g T.next.kp T.next.b .nil pass0 (pa_cons (pv 0) (pa_cons (pe_callB call_len_seq (by rfl) T.len PySem.boot_len (pa_cons (pv 4) pa_nil)) pa_nil))) (fun _ _ => rfl)))
      (pss_cons (ps_set (i := 6) scLiteral.nd rfl (Or.inl rfl) (pe_dget hu (pv 1) (pv 5) (fun _ _ => rfl)))
      (C8.pss_cut (ps_if (PW.pt (pw_and (pt_not (pt_val (pv 3))) (pw_and1 (pt_cmpR op_eq (pe_call GN hr1 (by rfl) T.next.g T.next.kp T.next.b .nil pass0 (pa_cons (pv 0) (pa_cons pe_int pa_nil))) pe_int (nomark _))))) (pss_one (ps_set (i := 6) scLiteral.nd rfl (Or.inl rfl) (pe_op op_sub (pe_op op_add (pv 6) pe_int) (pe_op op_mul pe_int (pe_call GN hr1 (by rfl) T.next.g T.next.kp T.next.b .nil pass0 (pa_cons (pv 0) (pa_cons pe_int pa_nil))))))) pss_nil)
      (C8.pss_cut (ps_if (PW.pt (pw_and (pt_not (pt_val (pv 3))) (pw_and1 (pt_cmpR op_eq (pe_call GN hr1 (by rfl) T.next.g T.next.kp T.next.b .nil pass0 (pa_cons (pv 0) (pa_cons pe_int pa_nil))) pe_int (nomark _))))) (pss_one (ps_set (i := 5) scLiteral.nd rfl (Or.inl rfl) pe_str)) pss_nil)
      (pss_cons (ps_setLc (i := 7) (own := [("_law_k", 11)]) (g := gName 11) rfl scLiteral.nd rfl rfl (sw_true rfl rfl rfl (by decide +kernel)) (pi_range1 (by rfl) T.range (pa_cons (pv 6) pa_nil)) (blkOk_by (own := [("_law_k", 11)]) (N := nLit) (sc := defScope sLiteral) (by decide +kernel)) (fun _ _ _ _ _ => (pg_name (i := 11) scLiteral.nd rfl (Or.inl rfl))) (fun _ _ _ _ _ => pts_nil) (fun _ _ _ _ _ => (pe_call GT hr3 (by rfl) T.term.g T.term.kp T.term.b .nil pass0 (pa_cons (pv 0) (pa_cons (pv 2) pa_nil)))))
      (pss_cons (ps_set (i := 8) scLiteral.nd rfl (Or.inl rfl) (pe_ix ix_list (pe_lst (pa_cons pe_str (pa_cons pe_str (pa_cons pe_str (pa_cons pe_str (pa_cons pe_str (pa_cons pe_str (pa_cons pe_str pa_nil)))))))) (pe_call GN hr1 (by rfl) T.next.g T.next.kp T.next.b .nil pass0 (pa_cons (pv 0) (pa_cons pe_int pa_nil))) (fun _ _ => rfl)))
      (C8.pss_cut (ps_if (PW.pt (pw_and (pt_cmpR op_eq (pv 8) pe_str (nomark _)) (pw_and1 (PW.pt (pw_or (pt_val (pv 3)) (pw_or1 (pt_cmpR op_gt (pe_call GN hr1 (by rfl) T.next.g T.next.kp T.next.b .nil pass0 (pa_cons (pv 0) (pa_cons pe_int pa_nil))) pe_int (nomark _)))))))) (pss_one (ps_setLc (i := 7) (own := [("_law_term_here", 12)]) (g := gName 12) rfl scLiteral.nd rfl rfl (sw_true rfl rfl rfl (by decide +kernel)) (pi_list (pv 7)) (blkOk_by (own := [("_law_term_here", 12)]) (N := nLit) (sc := defScope sLiteral) (by decide +kernel)) (fun _ _ _ _ _ => (pg_name (i := 12) scLiteral.nd rfl (Or.inl rfl))) (fun _ _ _ _ _ => pts_nil) (fun _ _ _ _ _ => (pe_ix (r := rIxL K) ix_list (pe_lst (pa_cons (pv 12) (pa_cons (pe_tup (pa_cons pe_str pa_nil)) pa_nil))) (pe_callTy call_int1 (by rfl) T.int (by decide +kernel) (pa_cons (pe_and (pe_cmpR op_eq (pe_ix (r := rIxT K) ix_tup (pv 12) pe_int (fun _ _ => rfl)) pe_str (nomark _)) (pe_one (pe_cmpR (r := rIn K true) op_notIn_seq (pe_ix (r := rIxT K) ix_tup (pv 12) pe_int (fun _ _ => rfl)) (pv 2) (by rfl)))) pa_nil)) (fun _ _ => rfl))))) pss_nil)
      (C8.pss_cut (ps_if (pt_cmpR op_in_seq (pv 8) (pe_lst (pa_cons pe_str (pa_cons pe_str pa_nil))) (by rfl)) (pss_one (ps_ret (pe_tup (pa_cons (pv 8) (pa_cons (pv 5) (pa_cons (pe_callTy call_tuple_of (by rfl) T.tuple (by decide +kernel) (pa_cons (pv 7) pa_nil)) pa_nil)))))) pss_nil)
      (pss_cons (ps_set (i := 9) scLiteral.nd rfl (Or.inl rfl) (pe_lst (pa_cons (pe_call GT hr3 (by rfl) T.term.g T.term.kp T.term.b .nil pass0 (pa_cons (pv 0) (pa_cons (pv 2) pa_nil))) (pa_cons (pe_call GT hr3 (by rfl) T.term.g T.term.kp T.term.b .nil pass0 (pa_cons (pv 0) (pa_cons (pv 2) pa_nil))) pa_nil))))
      (C8.pss_cut (ps_if (PW.pt (pw_or (pt_val (pv 3)) (pw_or1 (pt_cmpR op_gt (pe_call GN hr1 (by rfl) T.next.g T.next.kp T.next.b .nil pass0 (pa_cons (pv 0) (pa_cons pe_int pa_nil))) pe_int (nomark _))))) (pss_one (ps_setLc (i := 9) (own := [("_law_term_here", 12)]) (g := gName 12) rfl scLiteral.nd rfl rfl (sw_true rfl rfl rfl (by decide +kernel)) (pi_list (pv 9)) (blkOk_by (own := [("_law_term_here", 12)]) (N := nLit) (sc := defScope sLiteral) (by decide +kernel)) (fun _ _ _ _ _ => (pg_name (i := 12) scLiteral.nd rfl (Or.inl rfl))) (fun _ _ _ _ _ => pts_nil) (fun _ _ _ _ _ => (pe_call GS hr1 (by rfl) T.settled.g T.settled.kp T.settled.b .nil pass0 (pa_cons (pv 12) (pa_cons (pv 2) pa_nil)))))) pss_nil)
      (pss_cons (ps_set (i := 10) scLiteral.nd rfl (Or.inr rfl) (pe_call GV hr2 (by rfl) T.vari.g T.vari.kp T.vari.b .nil pass0 (pa_cons (pv 0) pa_nil)))
      (pss_cons (ps_if (pt_cmpR op_eq (pv 8) pe_str (nomark _)) (pss_one (ps_ret (pe_tup (pa_cons (pv 8) (pa_cons (pe_ix ix_list (pe_lst (pa_cons pe_str (pa_cons pe_str (pa_cons pe_str (pa_cons pe_str (pa_cons pe_str (pa_cons pe_str pa_nil))))))) (pe_call GN hr1 (by rfl) T.next.g T.next.kp T.next.b .nil pass0 (pa_cons (pv 0) (pa_cons pe_int pa_nil))) (fun _ _ => rfl)) (pa_cons (pe_ix ix_list (pv 9) pe_int (fun _ _ => rfl)) (pa_cons (pe_ix ix_list (pv 9) pe_int (fun _ _ => rfl)) pa_nil))))))) pss_nil)
      (pss_cons (ps_if (pt_cmpR op_eq (pv 8) pe_str (nomark _)) (pss_one (ps_ret (pe_tup (pa_cons (pv 8) (pa_cons (pv 10) (pa_cons (pe_ix ix_list (pe_lst (pa_cons pe_str (pa_cons pe_str (pa_cons pe_str pa_nil)))) (pe_call GN hr1 (by rfl) T.next.g T.next.kp T.next.b .nil pass0 (pa_cons (pv 0) (pa_cons pe_int pa_nil))) (fun _ _ => rfl)) (pa_cons (pe_ix ix_list (pv 9) pe_int (fun _ _ => rfl)) (pa_cons (pe_ix ix_list (pv 9) pe_int (fun _ _ => rfl)) pa_nil)))))))) pss_nil)
      (pss_cons (ps_if (pt_val (pv 3)) pss_never pss_nil)
      (pss_one (ps_ret (pe_tup (pa_cons (pv 8) (pa_cons (pv 10) (pa_cons (pv 5) (pa_cons (pe_callTy call_tuple_of (by rfl) T.tuple (by decide +kernel) (pa_cons (pv 7) pa_nil)) pa_nil)))))))))))))))))))))), ?_⟩
    have frPut : ∀ {H0 H' : Hp} {D : Addr} {o : HO}, Fr st H0 H' → H0 D = none → Fr st H0 (L2.upd H' D o) := fun {H0 H' D o} e hD b u q n => by
      rw [upd_ne (ne_of_none q hD)]
      exact e _ _ q n
    have samePut : ∀ {H0 H' : Hp} {D : Addr} {o : HO}, Same H0 H' → H0 D = none → Same H0 (L2.upd H' D o) := fun {H0 H' D o} e hD b u q => by
      rw [upd_ne (ne_of_none q hD)]
      exact e _ _ q
    -- names
    refine ⟨_, rfl, wd, relK ws, rfl, W.at_, fun q hq => ⟨q, ws.map (·.1), rfl, SqL.of (by rw [upd_same, keys_relK]), by rw [List.length_map]; have := W.few; omega, fun ys nm perm _ hnm => ?_⟩⟩
    have e1 : Fr st H (L2.upd (L2.upd H q (.lst ((relK ws).map fun kv => kV kv.1))) nm (.lst (ys.map V.str))) := (Fr.upd hq).new hnm
    have S1 := (S.new (o := .lst ((relK ws).map fun kv => kV kv.1)) hq).new (o := .lst (ys.map V.str)) hnm
    have n1 : L2.upd (L2.upd H q (.lst ((relK ws).map fun kv => kV kv.1))) nm (.lst (ys.map V.str)) nm = some (.lst (ys.map V.str)) := upd_same
    generalize L2.upd (L2.upd H q (.lst ((relK ws).map fun kv => kV kv.1))) nm (.lst (ys.map V.str)) = H1 at e1 S1 n1 ⊢
    have yl : ys.length = ws.length := by have := perm.length_eq; rw [List.length_map] at this; exact this
    -- relation
    refine ⟨_, rfl, _, rfl, _, rfl, nm, _, rfl, .inl (SqL.of n1), st, c, _, rfl, ?_, ?_, S1, fun v H2 h0 h1 S2 e2 => ?_⟩
    · rw [List.length_map, yl]
      have := List.length_pos_iff.mpr W.pos
      omega
    · rw [List.length_map, yl]
      have := W.few
      omega
    obtain ⟨x, hx, hat⟩ := at_lt (xs := ys.map V.str) h0 h1
    obtain ⟨r, hr, rfl⟩ := List.mem_map.mp hx
    have n2 := e2 _ _ n1 (nm_ne n1 S1)
    refine ⟨nm, _, v, _, rfl, rfl, SqL.of n2, hat, ?_⟩
    -- width
    obtain ⟨n, hn, hmem⟩ := lookup_mem (perm.subset hr)
    have W2 := W.fr S (e1.trans e2)
    refine ⟨_, rfl, _, rfl, wd, V.int (n : Nat), rfl, dgetS W2.at_ (by rw [lookup_none, hn]; rfl), ?_⟩
    have hw := W.wid _ hmem
    refine ⟨fun σ H' => ∃ (r : Str) (n : Int), σ = [some (.ref st), some (.ref wd), some b, some (.bl false), some (.ref nm), some (.str r), some (.int n), none, none, none, none, none, none] ∧ 0 ≤ n ∧ n ≤ 5 ∧ StAt H' st c ∧ Fr st H H', ?_, ?_⟩
    · refine ⟨_, rfl, _, rfl, ifT rfl ?_⟩
      refine ⟨_, rfl, st, c, _, rfl, by decide, by decide, S2, fun u H3 u0 u1 S3 e3 => ⟨rfl, _, rfl, ite2 (fun z => ?_) (fun z => ?_)⟩⟩
      · refine ⟨_, rfl, _, _, rfl, rfl, _, rfl, st, c, _, rfl, by decide, by decide, S3, fun u' H4 u0' u1' S4 e4 => ?_⟩
        refine ⟨_, _, rfl, rfl, .inl ⟨by decide, by decide⟩, _, _, rfl, rfl, r, _, rfl, ?_, ?_, S4, ((e1.trans e2).trans e3).trans e4⟩
        · show 0 ≤ (n : Int) + 1 - 2 * u'
          have := hw.1
          have := hw.2
          simp only at *
          omega
        · show (n : Int) + 1 - 2 * u' ≤ 5
          have := hw.2
          simp only at *
          omega
      · exact ⟨r, _, rfl, by omega, by have := hw.2; simp only at *; omega, S3, (e1.trans e2).trans e3⟩
    rintro σ3 H3 ⟨r3, w3, rfl, w30, w31, S3, e3⟩
    refine ⟨fun σ H' => ∃ (r : Str) (n : Int), σ = [some (.ref st), some (.ref wd), some b, some (.bl false), some (.ref nm), some (.str r), some (.int n), none, none, none, none, none, none] ∧ 0 ≤ n ∧ n ≤ 5 ∧ StAt H' st c ∧ Fr st H H', ?_, ?_⟩
    · refine ⟨_, rfl, _, rfl, ifT rfl ?_⟩
      refine ⟨_, rfl, st, c, _, rfl, by decide, by decide, S3, fun u H4 u0 u1 S4 e4 => ⟨rfl, _, rfl, ite2 (fun z => ?_) (fun z => ?_)⟩⟩
      · exact ⟨_, w3, rfl, w30, w31, S4, e3.trans e4⟩
      · exact ⟨_, w3, rfl, w30, w31, S4, e3.trans e4⟩
    rintro σ4 H5 ⟨r5, w5, rfl, w50, w51, S5, e5⟩
    -- terms
    refine ⟨_, rfl, w5, rfl, by omega, by omega, fun d hd => ?_⟩
    refine lc_range (lo := 0) (n := w5.toNat) (fun i H1 => ∃ (vs : List V) (ts : List Tm), H1 d = some (.lst vs) ∧ TmsAt H1 vs ts ∧ ts.length = i ∧ StAt H1 st c ∧ Fr st H5 H1)
      ⟨[], [], upd_same, .nil, rfl, S5.new hd, Fr.upd hd⟩ ?_ ?_
    · rintro i H6 hi ⟨vs, ts, hv, hts, hl, S6, e6⟩
      have hb6 : NmAt H6 b xs := hb.fr (e5.trans e6) S
      refine ⟨rfl, ?_⟩
      refine yesT ⟨_, rfl, _, rfl, st, c, b, xs, rfl, hb6, hz, S6, fun v t H7 ht S7 e7 => ?_⟩
      have hv7 := e7 _ _ hv (S5.no hd)
      have el : vs.length = ts.length := Paired.len hts
      refine ⟨vs, hv7, line4' (by omega), vs ++ [v], ts ++ [t], upd_same, Paired.snoc ?_ ?_, by rw [List.length_append, hl]; rfl, S7.put (S5.no hd) (S5.noc hd), frPut (e6.trans e7) hd⟩
      · exact TmsAt.tu (Tu.set hv7 (by intro xs z; cases z)) (TmsAt.fr hts S6 e7)
      · exact ht.tu (Tu.set hv7 (by intro xs z; cases z))
    rintro H6 ⟨vs6, ts6, hv6, hts6, hl6, S6, e6⟩
    have e06 := e5.trans e6
    -- form
    refine ⟨few, fun p hp => ?_⟩
    refine ⟨_, rfl, st, c, _, rfl, by decide, by decide, S6.new hp, fun v H7 h0 h1 S7 e7 => ?_⟩
    obtain ⟨x, hx, hat⟩ := at_lt (xs := [.str "fact", .str "fact", .str "fact", .str "not", .str "compare", .str "is", .str "count"]) h0 h1
    obtain ⟨f, hf, rfl⟩ : ∃ f : Str, (f = "fact" ∨ f = "not" ∨ f = "compare" ∨ f = "is" ∨ f = "count") ∧ x = .str f := by
      simp only [List.mem_cons, List.not_mem_nil, or_false] at hx
      rcases hx with rfl | rfl | rfl | rfl | rfl | rfl | rfl
      · exact ⟨_, .inl rfl, rfl⟩
      · exact ⟨_, .inl rfl, rfl⟩
      · exact ⟨_, .inl rfl, rfl⟩
      · exact ⟨_, .inr (.inl rfl), rfl⟩
      · exact ⟨_, .inr (.inr (.inl rfl)), rfl⟩
      · exact ⟨_, .inr (.inr (.inr (.inl rfl))), rfl⟩
      · exact ⟨_, .inr (.inr (.inr (.inr rfl))), rfl⟩
    refine ⟨p, _, v, _, rfl, rfl, SqL.of (e7 _ _ upd_same (S6.no hp)), hat, ?_⟩
    have e67 : Fr st H6 H7 := (Fr.upd hp).trans e7
    have e07 := e06.trans e67
    have tl7 : TlAt H7 (.ref d) ts6 := TlAt.fr ⟨d, vs6, rfl, hv6, hts6, by omega⟩ S6 e67
    have hl7 : ts6.length ≤ 5 := by omega
    refine ⟨fun σ H' => ∃ (r : Str) (n : Int) (tl : V) (ts : List Tm), σ = [some (.ref st), some (.ref wd), some b, some (.bl false), some (.ref nm), some (.str r), some (.int n), some tl, some (.str f), none, none, none, none] ∧ TlAt H' tl ts ∧ ts.length ≤ 5 ∧ StAt H' st c ∧ Fr st H H', ?_, ?_⟩
    · refine ⟨_, rfl, rfl, _, rfl, ite2 (fun z => ?_) (fun z => ⟨_, _, _, _, rfl, tl7, hl7, S7, e07⟩)⟩
      refine ⟨_, rfl, _, rfl, iteF ?_⟩
      refine ⟨_, rfl, st, c, _, rfl, by decide, by decide, S7, fun u H8 u0 u1 S8 e8 => ⟨_, _, rfl, rfl, _, rfl, ite2 (fun z => ?_) (fun z => ?_)⟩⟩
      · obtain ⟨a8, vs8, ea, ha8, hts8, _⟩ := tl7.fr S7 e8
        cases ea
        obtain ⟨lb, rfl, hlb⟩ : NmAt H8 b xs := hb.fr (e07.trans e8) S
        refine ⟨_, rfl, d, rfl, ⟨_, SqL.of ha8⟩, fun g hg => ?_⟩
        refine lc_list (K := K) (a := d) (xs := vs8) (fun i H1 => ∃ (vs : List V) (ts : List Tm), H1 g = some (.lst vs) ∧ TmsAt H1 vs ts ∧ ts.length = i ∧ Same H8 H1)
          ⟨[], [], upd_same, .nil, rfl, Same.upd hg⟩ (fun i H1 _ ⟨_, _, _, _, _, s⟩ => SqL.of (s _ _ ha8)) ?_ ?_
        · rintro i x H9 hi ⟨vs, ts, hv, hts, hl, s9⟩
          obtain ⟨t, ht, hxt⟩ := Paired.get hts8 hi
          have ii : i < vs8.length := (List.getElem?_eq_some_iff.mp hi).1
          have el8 : vs8.length = ts6.length := Paired.len hts8
          refine ⟨rfl, ?_⟩
          refine yesT (read_any (b := lb) (xs := xs) rfl rfl (hxt.tu (Tu.same s9)) (s9 _ _ hlb) fun v' t' H10 ht' s10 => ?_)
          have hv10 := s10 _ _ hv
          have el : vs.length = ts.length := Paired.len hts
          refine ⟨vs, hv10, line4' (by omega), vs ++ [v'], ts ++ [t'], upd_same, Paired.snoc ?_ ?_, by rw [List.length_append, hl]; rfl, samePut (L2.Same.trans s9 s10) hg⟩
          · exact TmsAt.tu (Tu.set hv10 (by intro xs z; cases z)) (TmsAt.tu (Tu.same s10) hts)
          · exact ht'.tu (Tu.set hv10 (by intro xs z; cases z))
        · rintro H9 ⟨vs, ts, hv, hts, hl, s9⟩
          have el8 : vs8.length = ts6.length := Paired.len hts8
          exact ⟨_, _, _, ts, rfl, ⟨g, vs, rfl, hv, hts, by omega⟩, by omega, S8.same s9, (e07.trans e8).trans (Fr.same s9)⟩
      · exact ⟨_, _, _, _, rfl, tl7.fr S7 e8, hl7, S8, e07.trans e8⟩
    rintro σ8 H8 ⟨r8, n8, tl, ts, rfl, htl, hl8, S8, e8⟩
    obtain ⟨a8, vs8, rfl, ha8, hts8, _⟩ := id htl
    have pr_ne : ∀ {H0 : Hp} {pr : Addr} {v1 v2 : V}, StAt H0 st c → H0 pr = some (.lst [v1, v2]) → pr ≠ st := fun {H0 pr v1 v2} s h => by
      obtain ⟨cells, i, big, r, hs, _⟩ := s
      exact ne_of h hs (by intro z; cases z)
    have fin1 : ∀ (H9 : Hp) (m : Str) (l : List Tm → Lit), Same H8 H9 → (∀ ts H' a tv, H' a = some (.tup [.str m, .str r8, tv]) → TsAt H' tv ts → LitAt H' (.ref a) (l ts)) → (∀ ts, (l ts).binds.length ≤ ts.length) → ∀ q, H9 q = none → ∀ p', L2.upd H9 q (.tup vs8) p' = none → Q (.ref p') (L2.upd (L2.upd H9 q (.tup vs8)) p' (.tup [.str m, .str r8, .ref q])) := by
      intro H9 m l s9 hl hbn q hq p' hp'
      have tu := Tu.trans (Tu.trans (Tu.same s9) (Tu.upd (o := .tup vs8) hq)) (Tu.upd (o := .tup [.str m, .str r8, .ref q]) hp')
      exact k _ (l ts) _ (hl ts _ _ _ upd_same ⟨q, vs8, rfl, Same.upd hp' _ _ upd_same, TmsAt.tu tu hts8, by omega⟩) (Nat.le_trans (hbn ts) hl8) (((S8.same s9).new hq).new hp') (((e8.trans (Fr.same s9)).new hq).new hp')
    refine ⟨fun σ H' => (f = "compare" ∨ f = "is" ∨ f = "count") ∧ ∃ (r : Str) (n : Int) (tl : V) (ts : List Tm), σ = [some (.ref st), some (.ref wd), some b, some (.bl false), some (.ref nm), some (.str r), some (.int n), some tl, some (.str f), none, none, none, none] ∧ TlAt H' tl ts ∧ ts.length ≤ 5 ∧ StAt H' st c ∧ Fr st H H', ?_, ?_⟩
    · refine ⟨_, rfl, few, fun p hp => ⟨p, _, rfl, .inl (SqL.of upd_same), rfl, rfl, _, rfl, ?_⟩⟩
      have s9 : ∀ o, Same H8 (L2.upd H8 p o) := fun o => Same.upd hp
      rcases hf with rfl | rfl | h3
      · refine ifT (by decide +kernel) ⟨_, rfl, _, rfl, _, rfl, a8, _, rfl, .inl ⟨SqL.of (s9 _ _ _ ha8), fun q hq => ⟨few, fun p' hp' => ?_⟩⟩⟩
        exact fin1 _ "fact" (fun ts => .fact r8 ts) (s9 _) (fun ts H' a tv h1 h2 => ⟨a, tv, rfl, h1, h2⟩) vars_len q hq p' hp'
      · refine ifT (by decide +kernel) ⟨_, rfl, _, rfl, _, rfl, a8, _, rfl, .inl ⟨SqL.of (s9 _ _ _ ha8), fun q hq => ⟨few, fun p' hp' => ?_⟩⟩⟩
        exact fin1 _ "not" (fun ts => .neg r8 ts) (s9 _) (fun ts H' a tv h1 h2 => ⟨a, tv, rfl, h1, h2⟩) (fun _ => Nat.zero_le _) q hq p' hp'
      · refine ifF (by rcases h3 with rfl | rfl | rfl <;> decide +kernel) ⟨h3, _, _, _, ts, rfl, ⟨a8, vs8, rfl, s9 _ _ _ ha8, TmsAt.tu (Tu.same (s9 _)) hts8, by omega⟩, hl8, S8.new hp, e8.new hp⟩
    rintro σ9 H9 ⟨h3, r9, n9, tl9, ts9, rfl, htl9, hl9, S9, e9⟩
    -- pair
    refine ⟨_, rfl, _, rfl, st, c, b, xs, rfl, hb.fr e9 S, hz, S9, fun v1 t1 H10 ht1 S10 e10 => ⟨_, rfl, _, rfl, st, c, b, xs, rfl, hb.fr (e9.trans e10) S, hz, S10, fun v2 t2 H11 ht2 S11 e11 => ⟨few, fun pr hpr => ?_⟩⟩⟩
    have ht1' := (ht1.tu (e11.tu S10)).tu (Tu.upd (o := .lst [v1, v2]) hpr)
    have ht2' := ht2.tu (Tu.upd (o := .lst [v1, v2]) hpr)
    have tl' := ((htl9.fr S9 e10).fr S10 e11).fr S11 (Fr.upd (o := .lst [v1, v2]) hpr)
    have S12 := S11.new (o := .lst [v1, v2]) hpr
    have e12 := ((e9.trans e10).trans e11).new (o := .lst [v1, v2]) hpr
    have p12 : L2.upd H11 pr (.lst [v1, v2]) pr = some (.lst [v1, v2]) := upd_same
    generalize L2.upd H11 pr (.lst [v1, v2]) = H12 at ht1' ht2' tl' S12 e12 p12 ⊢
    refine ⟨fun σ H' => ∃ (pr : Addr) (v1 v2 : V) (t1 t2 : Tm), σ = [some (.ref st), some (.ref wd), some b, some (.bl false), some (.ref nm), some (.str r9), some (.int n9), some tl9, some (.str f), some (.ref pr), none, none, none] ∧ TlAt H' tl9 ts9 ∧ H' pr = some (.lst [v1, v2]) ∧ TmAt H' v1 t1 ∧ TmAt H' v2 t2 ∧ StAt H' st c ∧ Fr st H H', ?_, ?_⟩
    · refine ⟨_, rfl, _, rfl, iteF ?_⟩
      refine ⟨_, rfl, st, c, _, rfl, by decide, by decide, S12, fun u H13 u0 u1 S13 e13 => ⟨_, _, rfl, rfl, _, rfl, ?_⟩⟩
      have p13 := e13 _ _ p12 (pr_ne S12 p12)
      have ht1'' := ht1'.tu (e13.tu S12)
      have ht2'' := ht2'.tu (e13.tu S12)
      refine ite2 (fun z => ?_) (fun z => ⟨pr, v1, v2, t1, t2, rfl, tl'.fr S12 e13, p13, ht1'', ht2'', S13, e12.trans e13⟩)
      have hb13 : NmAt H13 b xs := hb.fr (e12.trans e13) S
      refine ⟨_, rfl, pr, rfl, ⟨_, SqL.of p13⟩, fun g hg => ?_⟩
      have hpair : TmsAt H13 [v1, v2] [t1, t2] := .cons ht1'' (.cons ht2'' .nil)
      refine lc_list (K := K) (a := pr) (xs := [v1, v2]) (fun i H1 => ∃ (vs : List V) (ts : List Tm), H1 g = some (.lst vs) ∧ TmsAt H1 vs ts ∧ ts.length = i ∧ Same H13 H1)
        ⟨[], [], upd_same, .nil, rfl, Same.upd hg⟩ (fun i H1 _ ⟨_, _, _, _, _, s⟩ => SqL.of (s _ _ p13)) ?_ ?_
      · rintro i x H14 hi ⟨vs, ts, hv, hts, hl, s14⟩
        obtain ⟨t, ht, hxt⟩ := Paired.get hpair hi
        have ii : i < [v1, v2].length := (List.getElem?_eq_some_iff.mp hi).1
        have ii2 : i < 2 := ii
        refine ⟨rfl, ?_⟩
        refine yesT ⟨_, rfl, _, rfl, x, b, t, xs, rfl, hxt.tu (Tu.same s14), hb13.same s14, fun v' t' H15 ht' s15 => ?_⟩
        have hv15 := s15 _ _ hv
        have el : vs.length = ts.length := Paired.len hts
        refine ⟨vs, hv15, line4' (by omega), vs ++ [v'], ts ++ [t'], upd_same, Paired.snoc ?_ ?_, by rw [List.length_append, hl]; rfl, samePut (L2.Same.trans s14 s15) hg⟩
        · exact TmsAt.tu (Tu.set hv15 (by intro xs z; cases z)) (TmsAt.tu (Tu.same s15) hts)
        · exact ht'.tu (Tu.set hv15 (by intro xs z; cases z))
      · rintro H14 ⟨vs, ts, hv, hts, hl, s14⟩
        have hl2 : ts.length = 2 := hl
        obtain ⟨w1, w2, y1, y2, rfl, rfl, q1, q2⟩ := pair2 hts hl2
        exact ⟨g, w1, w2, y1, y2, rfl, (tl'.fr S12 e13).fr S13 (Fr.same s14), hv, q1, q2, S13.same s14, (e12.trans e13).trans (Fr.same s14)⟩
    rintro σ13 H13 ⟨pr', w1, w2, y1, y2, rfl, tl13, p13, q1, q2, S13, e13⟩
    -- variable
    refine ⟨_, rfl, st, c, rfl, S13, fun x H14 S14 e14 => ?_⟩
    have p14 := e14 _ _ p13 (pr_ne S13 p13)
    have q1' := q1.tu (e14.tu S13)
    have q2' := q2.tu (e14.tu S13)
    have tl14 := tl13.fr S13 e14
    have e014 := e13.trans e14
    rcases h3 with rfl | rfl | rfl
    · refine ⟨_, rfl, rfl, _, rfl, ifT (by decide +kernel) ?_⟩
      refine ⟨_, rfl, few, fun p hp => ⟨_, rfl, st, c, _, rfl, by decide, by decide, S14.new hp, fun u H15 u0 u1 S15 e15 => ?_⟩⟩
      obtain ⟨o, ho, hat⟩ := at_lt (xs := [.str "=", .str "<>", .str "<", .str "<=", .str ">", .str ">="]) u0 u1
      obtain ⟨z, rfl⟩ := isStr_ok (List.all_eq_true.mp (show [V.str "=", .str "<>", .str "<", .str "<=", .str ">", .str ">="].all isStr = true from rfl) o ho)
      have e145 : Fr st H14 H15 := (Fr.upd hp).trans e15
      have p15 := e145 _ _ p14 (pr_ne S14 p14)
      refine ⟨p, _, u, _, rfl, rfl, SqL.of (e15 _ _ upd_same (S14.no hp)), hat, _, rfl, pr', _, _, _, rfl, rfl, SqL.of p15, by rfl, _, rfl, pr', _, _, _, rfl, rfl, SqL.of p15, by rfl, few, fun q hq => ?_⟩
      have tu := Tu.trans (e145.tu S14) (Tu.upd (o := .tup [.str "compare", .str z, w1, w2]) hq)
      exact k _ (.cmp z y1 y2) _ ⟨q, w1, w2, rfl, upd_same, q1'.tu tu, q2'.tu tu⟩ (Nat.zero_le _) (S15.new hq) ((e014.trans e145).new hq)
    · refine ⟨_, rfl, rfl, _, rfl, ifF (by decide +kernel) ⟨_, rfl, rfl, _, rfl, ifT (by decide +kernel) ?_⟩⟩
      refine ⟨_, rfl, _, rfl, few, fun p hp => ⟨_, rfl, st, c, _, rfl, by decide, by decide, S14.new hp, fun u H15 u0 u1 S15 e15 => ?_⟩⟩
      obtain ⟨o, ho, hat⟩ := at_lt (xs := [.str "+", .str "-", .str "*"]) u0 u1
      obtain ⟨z, rfl⟩ := isStr_ok (List.all_eq_true.mp (show [V.str "+", .str "-", .str "*"].all isStr = true from rfl) o ho)
      have e145 : Fr st H14 H15 := (Fr.upd hp).trans e15
      have p15 := e145 _ _ p14 (pr_ne S14 p14)
      refine ⟨p, _, u, _, rfl, rfl, SqL.of (e15 _ _ upd_same (S14.no hp)), hat, _, rfl, pr', _, _, _, rfl, rfl, SqL.of p15, by rfl, _, rfl, pr', _, _, _, rfl, rfl, SqL.of p15, by rfl, few, fun q hq => ?_⟩
      have tu := Tu.trans (e145.tu S14) (Tu.upd (o := .tup [.str "is", .str x, .str z, w1, w2]) hq)
      exact k _ (.is x z y1 y2) _ ⟨q, w1, w2, rfl, upd_same, q1'.tu tu, q2'.tu tu⟩ (by show 1 ≤ 5; decide) (S15.new hq) ((e014.trans e145).new hq)
    · refine ⟨_, rfl, rfl, _, rfl, ifF (by decide +kernel) ⟨_, rfl, rfl, _, rfl, ifF (by decide +kernel) ⟨_, rfl, _, rfl, iteF ?_⟩⟩⟩
      obtain ⟨a14, vs14, rfl, ha14, hts14, _⟩ := id tl14
      refine ⟨_, rfl, _, rfl, _, rfl, _, rfl, a14, _, rfl, .inl ⟨SqL.of ha14, fun q hq => ⟨few, fun p' hp' => ?_⟩⟩⟩
      have tu := Tu.trans (Tu.upd (o := .tup vs14) hq) (Tu.upd (o := .tup [.str "count", .str x, .str r9, .ref q]) hp')
      exact k _ (.cnt x r9 ts9) _ ⟨p', .ref q, rfl, upd_same, q, vs14, rfl, Same.upd hp' _ _ upd_same, TmsAt.tu tu hts14, by omega⟩ (by show 1 ≤ 5; decide) ((S14.new hq).new hp') ((e014.new hq).new hp')
end
end K21

set_option Elab.async false
set_option linter.all false
set_option maxRecDepth 100000
set_option maxHeartbeats 4000000
namespace K21
open PySem PySem.Spec PyProof.Rows L2
def spLBody : Sp := fun vs H Q _ => ∃ (st c wd : Addr) (ws : List (Str × Nat)), vs = [.ref st, .ref wd, .bl false, .int 6] ∧ StAt H st c ∧ WdAt H wd ws ∧
  ∀ (v : V) (ls : List Lit) (H' : Hp), BodyAt H' v ls → StAt H' st c → Fr st H H' → Q v H'
abbrev nLBody : List Str := ["_law_state", "_law_widths_here", "_law_careful", "_law_most", "_law_body_here", "_law_bound", "_law_facts", "_law_k", "_law_literal_here", "_law_name"]
/-- an if whose first way is shown once, from M -/
def tIfJ (c : TT) (t u : TS) : TS := fun D σ H => ∃ M : Hp → Prop, (c σ H fun b H1 => if b = true then M H1 else u D σ H1) ∧ ∀ H1, M H1 → t D σ H1
theorem ps_ifJ {X : Cx} {c : Expr} {a b : List Stmt} {t u : TS} {tc : TT} {pos : Pos} (hc : PT X c tc) (ha : PSs X a t) (hb : PSs X b u) : PS X (.If c a b pos) (tIfJ tc t u) := by
  refine ⟨fun pins s σ H D I h => ?_⟩
  obtain ⟨M, h, hM⟩ := h
  refine wpAny_If (thn (hc.run pins s σ H _ I h) fun d s1 ⟨H1, I1, q1⟩ => ?_)
  cases d with
  | true => exact ha.run pins s1 σ H1 D I1 (hM H1 q1)
  | false => exact hb.run pins s1 σ H1 D I1 q1
theorem at0 {x : V} {r : List V} : atI (x :: r) 0 = some x := atI_nat (j := 0) rfl
theorem LitAt.tag {H : Hp} {v : V} {l : Lit} (h : LitAt H v l) : ∃ (a : Addr) (m : Str) (r : List V), v = .ref a ∧ H a = some (.tup (.str m :: r)) := by
  cases l with
  | fact r ts => obtain ⟨a, tv, rfl, h, q⟩ := h; exact ⟨a, _, _, rfl, h⟩
  | neg r ts => obtain ⟨a, tv, rfl, h, q⟩ := h; exact ⟨a, _, _, rfl, h⟩
  | cmp o t u => obtain ⟨a, tv, uv, rfl, h, q, q'⟩ := h; exact ⟨a, _, _, rfl, h⟩
  | is x o t u => obtain ⟨a, tv, uv, rfl, h, q, q'⟩ := h; exact ⟨a, _, _, rfl, h⟩
  | cnt x r ts => obtain ⟨a, tv, rfl, h, q⟩ := h; exact ⟨a, _, _, rfl, h⟩
section
variable {P : Program} {w : World} {K : PySem.W.Frag} {mg : Str → Option Value} {base : Heap} {A : Nm → Addr} {D : Nm → FuncData}
theorem scLBody : FnScope nLBody ["_law_state", "_law_widths_here", "_law_careful", "_law_most"] (defScope sLBody) := ⟨rfl, rfl, rfl, by decide +kernel, rfl, by decide +kernel, by decide +kernel⟩
theorem frPut {st : Addr} {H0 H' : Hp} {D : Addr} {o : HO} (e : Fr st H0 H') (hD : H0 D = none) : Fr st H0 (L2.upd H' D o) := fun b u q n => by
  rw [upd_ne (ne_of_none q hD)]
  exact e _ _ q n
theorem samePut {H0 H' : Hp} {D : Addr} {o : HO} (e : Same H0 H') (hD : H0 D = none) : Same H0 (L2.upd H' D o) := fun b u q => by
  rw [upd_ne (ne_of_none q hD)]
  exact e _ _ q
theorem LitsAt.tu {H H' : Hp} (e : Tu H H') {vs : List V} {ls : List Lit} (h : Paired (LitAt H) vs ls) : Paired (LitAt H') vs ls := Paired.mapP h fun _ _ q => q.tu e
theorem ok_lbody (T : Txt P K mg A D) : FnOk P w K mg base CX0 5 (A .lbody) (D .lbody) ["_law_state", "_law_widths_here", "_law_careful", "_law_most"] spLBody := by
  have GN : FnOk P w K mg base CX0 1 _ _ _ spNext := ok_next T
  have GL : FnOk P w K mg base CX0 4 _ _ _ spLiteral := ok_literal T
  have GB : FnOk P w K mg base CX0 1 _ _ _ spBinds := ok_binds T
  refine T.lbody.F.ok scLBody (fun vs H Q E h => ?_) (fun cdv Ar outer s H vs Q E hr h => ?_)
  · obtain ⟨st, c, wd, ws, rfl, _⟩ := h
    rfl
  · obtain ⟨st, c, wd, ws, rfl, S, W, k⟩ := h
    have hr1 := hr.mono (j := 1) (by decide)
    refine ⟨_, (pss_cons (ps_set (i := 4) scLBody.nd rfl (Or.inl rfl) (pe_lst pa_nil))
      (pss_cons (ps_set (i := 5) scLBody.nd rfl (Or.inr rfl) (pe_lst pa_nil))
      (pss_cons (ps_set (i := 6) scLBody.nd rfl (Or.inl rfl) pe_int)
      (pss_cons (ps_for PassesOwn.never rfl (pi_range1 (by rfl) T.range (pa_cons (pe_call GN hr1 (by rfl) T.next.g T.next.kp T.next.b .nil pass0 (pa_cons (pv 0) (pa_cons (pe_op op_add (pv 3) pe_int) pa_nil))) pa_nil)) (pg_name (i := 7) scLBody.nd rfl (Or.inl rfl)) (pss_cons (ps_set (i := 8) scLBody.nd rfl (Or.inl rfl) (pe_call GL hr (by rfl) T.literal.g T.literal.kp T.literal.b .nil pass0 (pa_cons (pv 0) (pa_cons (pv 1) (pa_cons (pv 5) (pa_cons (pv 2) pa_nil))))))
      (pss_one (ps_ifJ (PW.pt (pw_or (pt_cmpR op_ne (pe_ix ix_tup (pv 8) pe_int (fun _ _ => rfl)) pe_str (nomark _)) (pw_or1 (pt_cmpR op_lt (pv 6) pe_int (nomark _))))) (pss_cons (ps_expr (pe_bm PySem.F.plainAttrs_list PySem.F.slot_list_append PySem.F.type_list_append mt_append (pv 4) (pa_cons (pv 8) pa_nil)))
      (pss_cons (ps_set (i := 6) scLBody.nd rfl (Or.inl rfl) (pe_op op_add (pv 6) (pe_callTy call_int1 (by rfl) T.int (by decide +kernel) (pa_cons (pe_cmpR op_eq (pe_ix ix_tup (pv 8) pe_int (fun _ _ => rfl)) pe_str (nomark _)) pa_nil))))
      (pss_one (ps_set (i := 5) scLBody.nd rfl (Or.inr rfl) (pe_op op_cat (pv 5) (pe_lc (own := [("_law_name", 9)]) (g := gName 9) rfl scLBody.nd (pi_list (pe_call GB hr1 (by rfl) T.binds.g T.binds.kp T.binds.b .nil pass0 (pa_cons (pv 8) pa_nil))) (blkOk_by (own := [("_law_name", 9)]) (N := nLBody) (sc := defScope sLBody) (by decide +kernel)) (fun _ _ _ _ _ => (pg_name (i := 9) scLBody.nd rfl (Or.inl rfl))) (fun _ _ _ _ _ => pts_one (pt_cmpR (r := rIn K true) op_notIn_seq (pv 9) (pv 5) (by rfl))) (fun _ _ _ _ _ => (pv 9)))))))) pss_nil))))
      (pss_one (ps_ret (pe_callTy call_tuple_of (by rfl) T.tuple (by decide +kernel) (pa_cons (pv 4) pa_nil)))))))), ?_⟩
    refine ⟨few, fun bd hbd => ⟨few, fun b0 hb0 => ?_⟩⟩
    have hne0 : b0 ≠ bd := fun z => by
      rw [z, upd_same] at hb0
      cases hb0
    have S0 := (S.new (o := .lst []) hbd).new (o := .lst []) hb0
    have e0 : Fr st H (L2.upd (L2.upd H bd (.lst [])) b0 (.lst [])) := (Fr.upd hbd).new hb0
    have x0 : L2.upd (L2.upd H bd (.lst [])) b0 (.lst []) bd = some (.lst []) := by rw [upd_ne hne0.symm]; exact upd_same
    have y0 : L2.upd (L2.upd H bd (.lst [])) b0 (.lst []) b0 = some (.lst []) := upd_same
    generalize L2.upd (L2.upd H bd (.lst [])) b0 (.lst []) = H0 at S0 e0 x0 y0 ⊢
    refine ⟨_, rfl, _, rfl, _, _, rfl, rfl, st, c, _, rfl, by decide, by decide, S0, fun n H1 n0 n1 S1 e1 => ⟨_, rfl, by omega, by omega, ?_⟩⟩
    have n2 : n < 7 := n1
    refine for_range (lo := 0) (n := n.toNat) (fun i σ H1 => ∃ (fc : Int) (vs : List V) (ls : List Lit) (b : Addr) (xs : List Str) (v7 v8 : Option V), σ = [some (.ref st), some (.ref wd), some (.bl false), some (.int 6), some (.ref bd), some (.ref b), some (.int fc), v7, v8, none] ∧
        H1 bd = some (.lst vs) ∧ Paired (LitAt H1) vs ls ∧ ls.length ≤ i ∧ H1 b = some (.lst (xs.map V.str)) ∧ xs.length ≤ 5 * i ∧ b ≠ bd ∧ StAt H1 st c ∧ Fr st H H1)
      ⟨0, [], [], b0, [], none, none, rfl, e1 _ _ x0 (nm_ne (xs := []) x0 S0), .nil, Nat.le_refl _, e1 _ _ y0 (nm_ne (xs := []) y0 S0), Nat.le_refl _, hne0, S1, e0.trans e1⟩ ?_ ?_
    · rintro i σ H2 hi ⟨fc, vs, ls, b, xs, v7, v8, rfl, hv, hls, hl, hb, hx, hne, S2, e2⟩
      have W2 := W.fr S e2
      refine ⟨_, rfl, _, rfl, _, rfl, _, rfl, st, c, wd, .ref b, xs, ws, rfl, S2, W2, ⟨b, rfl, hb⟩, by omega, fun lv l H3 hlt hbn S3 e3 => ?_⟩
      have bdst : bd ≠ st := S.no hbd
      have bdc : bd ≠ c := S.noc hbd
      have hv3 := e3 _ _ hv bdst
      have hb3 := e3 _ _ hb (nm_ne hb S2)
      have hls3 := LitsAt.tu (e3.tu S2) hls
      have e03 := e2.trans e3
      have el : vs.length = ls.length := Paired.len hls
      have skip : ∃ (fc' : Int) (vs' : List V) (ls' : List Lit) (b' : Addr) (xs' : List Str) (v7 v8 : Option V), [some (V.ref st), some (.ref wd), some (.bl false), some (.int 6), some (.ref bd), some (.ref b), some (.int fc), some (.int (0 + (i : Int))), some lv, none] = [some (.ref st), some (.ref wd), some (.bl false), some (.int 6), some (.ref bd), some (.ref b'), some (.int fc'), v7, v8, none] ∧
          H3 bd = some (.lst vs') ∧ Paired (LitAt H3) vs' ls' ∧ ls'.length ≤ i + 1 ∧ H3 b' = some (.lst (xs'.map V.str)) ∧ xs'.length ≤ 5 * (i + 1) ∧ b' ≠ bd ∧ StAt H3 st c ∧ Fr st H H3 :=
        ⟨fc, vs, ls, b, xs, _, _, rfl, hv3, hls3, by omega, hb3, by omega, hne, S3, e03⟩
      obtain ⟨a, m, r, rfl, ha⟩ := hlt.tag
      refine ⟨fun H1 => H3 = H1, ?_, ?_⟩
      · exact ⟨_, rfl, a, _, _, _, rfl, rfl, SqT.of ha, at0, rfl, _, rfl, ite2 (fun _ => rfl) (fun _ => ⟨_, rfl, _, _, rfl, rfl, _, rfl, ite2 (fun _ => rfl) (fun _ => skip)⟩)⟩
      · rintro _ rfl
        refine ⟨_, rfl, .inl ⟨rfl, _, SqL.of hv3⟩, _, rfl, bd, _, _, rfl, rfl, hv3, line4' (by omega), ?_⟩
        have tu4 : ∀ o, Tu H3 (L2.upd H3 bd o) := fun o => Tu.set hv3 (by intro xs z; cases z)
        have S4 : ∀ o, StAt (L2.upd H3 bd o) st c := fun o => S3.put bdst bdc
        have e4 : ∀ o, Fr st H (L2.upd H3 bd o) := fun o => frPut e03 hbd
        have hb4 : ∀ o, L2.upd H3 bd o b = some (.lst (xs.map V.str)) := fun o => by rw [upd_ne hne]; exact hb3
        have hv4 : L2.upd H3 bd (.lst (vs ++ [.ref a])) bd = some (.lst (vs ++ [.ref a])) := upd_same
        have hls4 : Paired (LitAt (L2.upd H3 bd (.lst (vs ++ [.ref a])))) (vs ++ [.ref a]) (ls ++ [l]) := Paired.snoc (LitsAt.tu (tu4 _) hls3) (hlt.tu (tu4 _))
        have hlt4 := hlt.tu (tu4 (.lst (vs ++ [.ref a])))
        have ha4 := tu4 (.lst (vs ++ [.ref a])) _ _ ha
        have S4' := S4 (.lst (vs ++ [.ref a]))
        have e4' := e4 (.lst (vs ++ [.ref a]))
        have hb4' := hb4 (.lst (vs ++ [.ref a]))
        generalize L2.upd H3 bd (.lst (vs ++ [.ref a])) = H4 at hv4 hls4 hlt4 ha4 S4' e4' hb4' ⊢
        refine ⟨_, rfl, _, rfl, a, _, _, _, rfl, rfl, SqT.of ha4, at0, rfl, .inr ⟨_, rfl, _, _, rfl, rfl, ?_⟩⟩
        refine ⟨_, rfl, _, rfl, .ref a, l, rfl, hlt4, fun v' H5 n5 s5 => ?_⟩
        obtain ⟨bl, rfl, _, hbl⟩ := n5
        refine ⟨bl, rfl, ⟨_, SqL.of hbl⟩, fun d hd => ?_⟩
        refine lc_list (K := K) (a := bl) (xs := l.binds.map V.str) (fun j H6 => ∃ ys : List Str, H6 d = some (.lst (ys.map V.str)) ∧ ys.length ≤ j ∧ Same H5 H6)
          ⟨[], upd_same, Nat.le_refl _, Same.upd hd⟩ (fun j H6 _ ⟨_, _, _, s⟩ => SqL.of (s _ _ hbl)) ?_ ?_
        · rintro j y H6 hj ⟨ys, hy, hyl, s6⟩
          have jj : j < (l.binds.map V.str).length := (List.getElem?_eq_some_iff.mp hj).1
          rw [List.length_map] at jj
          obtain ⟨nm, rfl⟩ : ∃ nm, y = V.str nm := by
            obtain ⟨nm, _, e⟩ := List.mem_map.mp (List.mem_of_getElem? hj)
            exact ⟨nm, e.symm⟩
          refine ⟨rfl, _, rfl, _, rfl, b, _, rfl, .inl (SqL.of (s6 _ _ (s5 _ _ hb4'))), rfl, flat_strs _, _, rfl, ite2 (fun _ => ?_) (fun _ => ⟨ys, hy, by omega, s6⟩)⟩
          refine ⟨_, rfl, _, hy, by rw [List.length_map]; exact line4' (by omega), ys ++ [nm], ?_, by rw [List.length_append]; show ys.length + 1 ≤ j + 1; omega, samePut s6 hd⟩
          rw [upd_same, List.map_append]
          rfl
        · rintro H6 ⟨ys, hy, hyl, s6⟩
          rw [List.length_map] at hyl
          have s46 := L2.Same.trans s5 s6
          refine ⟨b, d, _, _, rfl, rfl, s46 _ _ hb4', hy, by rw [List.length_map, List.length_map]; exact line4 (by omega), fun p hp => ?_⟩
          have s47 := Same.new (o := .lst (xs.map V.str ++ ys.map V.str)) s46 hp
          have hpb : p ≠ bd := by
            rintro rfl
            rw [s46 _ _ hv4] at hp
            cases hp
          refine ⟨_, _, _, p, xs ++ ys, _, _, rfl, s47 _ _ hv4, LitsAt.tu (Tu.same s47) hls4, by rw [List.length_append]; show ls.length + 1 ≤ i + 1; omega, ?_, by rw [List.length_append]; omega, hpb, S4'.same s47, e4'.trans (Fr.same s47)⟩
          rw [upd_same, List.map_append]
    · rintro σ H2 ⟨fc, vs, ls, b, xs, v7, v8, rfl, hv, hls, hl, hb, hx, hne, S2, e2⟩
      have el : vs.length = ls.length := Paired.len hls
      refine ⟨_, rfl, bd, _, rfl, .inl ⟨SqL.of hv, fun q hq => ?_⟩⟩
      exact k _ ls _ ⟨q, vs, rfl, upd_same, LitsAt.tu (Tu.upd hq) hls, by omega⟩ (S2.new hq) (e2.new hq)
end
end K21

set_option Elab.async false
set_option linter.all false
set_option maxRecDepth 100000
set_option maxHeartbeats 4000000
namespace K21
open PySem PySem.Spec PyProof.Rows L2
def eqT (ys xs : List V) : Bool := (List.range (min ys.length xs.length)).all (fun j => eqV (ys.getD j .non) (xs.getD j .non)) && ys.length == xs.length
theorem eqT_tm (t : Tm) (z : Str) : eqT t.vs [.str "variable", .str z] = decide (t.vs = [.str "variable", .str z]) := by
  have e1 : (("any" : Str) == ("variable" : Str)) = false := by decide +kernel
  have e2 : (("value" : Str) == ("variable" : Str)) = false := by decide +kernel
  have e3 : (("variable" : Str) == ("variable" : Str)) = true := by decide +kernel
  cases t with
  | var y =>
    have h : eqT (Tm.var y).vs [.str "variable", .str z] = ((("variable" : Str) == "variable") && ((y == z) && true) && true) := by rfl
    rw [h, e3]
    by_cases q : y = z
    · subst q
      simp [Tm.vs]
    · have q' : (y == z) = false := by simpa using q
      rw [q', decide_eq_false (by intro w; injection w with _ w; injection w with w _; exact q (V.str.inj w))]
      rfl
  | any =>
    have h : eqT (Tm.any).vs [.str "variable", .str z] = ((("any" : Str) == "variable") && true && false) := by rfl
    rw [h, Bool.and_false, decide_eq_false (by intro w; injection w with _ w; cases w)]
  | val w =>
    have h : eqT (Tm.val w).vs [.str "variable", .str z] = ((("value" : Str) == "variable") && (eqV w.v (.str z) && true) && true) := by rfl
    rw [h, e2, decide_eq_false (by intro w; injection w with w _; have := V.str.inj w; rw [this] at e2; exact absurd e3 (by rw [e2]; decide))]
    rfl
section
variable {X : Cx}
def rInTm : R2 := fun x y H Q => ∃ (p q : Addr) (z : Str) (vs : List V) (ts : List Tm), x = .ref p ∧ y = .ref q ∧ H p = some (.tup [.str "variable", .str z]) ∧ H q = some (.tup vs) ∧ TmsAt H vs ts ∧ Q (.bl (decide (z ∈ vars ts))) H
open Classical in
noncomputable def eIn (H : Hp) (z : Str) (u : Value) : Bool := decide (∃ b, u = .ref b ∧ H b = some (.tup [.str "variable", .str z]))
theorem flat_tm (t : Tm) : ∀ y ∈ t.vs, flatV y = true := by
  cases t with
  | var y => intro x hx; simp [Tm.vs] at hx; rcases hx with rfl | rfl <;> rfl
  | any => intro x hx; simp [Tm.vs] at hx; subst hx; rfl
  | val w => cases w <;> (intro x hx; simp [Tm.vs, Wv.v] at hx; rcases hx with rfl | rfl <;> rfl)
open Classical in
theorem eIn_tm {H : Hp} {b : Addr} {t : Tm} (z : Str) (h : H b = some (.tup t.vs)) : eIn H z (.ref b) = decide (t.vs = [.str "variable", .str z]) := by
  unfold eIn
  by_cases q : t.vs = [.str "variable", .str z]
  · rw [decide_eq_true q]
    exact decide_eq_true ⟨b, rfl, by rw [h, q]⟩
  · rw [decide_eq_false q]
    refine decide_eq_false ?_
    rintro ⟨b', e, h'⟩
    cases e
    rw [h] at h'
    exact q (HO.tup.inj (Option.some.inj h'))
open Classical in
theorem any_eIn {H : Hp} (z : Str) : ∀ {vs : List V} {ts : List Tm} {its : List Value}, TmsAt H vs ts → Vals vs its → its.any (eIn H z) = decide (z ∈ vars ts)
  | _, _, _, .nil, .nil => by simp [vars]
  | _, _, _, .cons (b := tm) (l₂ := ts) q t, .cons r rr => by
    obtain ⟨b, rfl, hb⟩ := q
    cases r
    rw [List.any_cons, any_eIn z t rr, eIn_tm z hb]
    cases tm with
    | var y =>
      show (decide ([V.str "variable", V.str y] = [V.str "variable", V.str z]) || decide (z ∈ vars ts)) = decide (z ∈ y :: vars ts)
      by_cases e : z = y
      · subst e
        simp
      · rw [decide_eq_false (by intro w; injection w with _ w; injection w with w _; exact e (V.str.inj w).symm)]
        simp [e]
    | any =>
      rw [decide_eq_false (by intro w; injection w with _ w; cases w)]
      rfl
    | val w =>
      have e2 : (("value" : Str) == ("variable" : Str)) = false := by decide +kernel
      rw [decide_eq_false (by intro w; injection w with w _; have := V.str.inj w; rw [this] at e2; simp at e2)]
      rfl
theorem op_inTm (hu : X.A.units + 65 < cLine) : OpR X (compareOp .In) rInTm := by
  intro pins s σ H x y v u Q I rx ry h
  obtain ⟨p, q, z, vs, ts, rfl, rfl, hp, hq, hts, k⟩ := h
  cases rx
  cases ry
  obtain ⟨its, r, pl, hz⟩ := I.tuple (SqT.of hq)
  obtain ⟨itp, rp, plp, hzp⟩ := I.tuple (SqT.of hp)
  refine SeqAt.in_tupleAt (eIn H z) pl (fun y hy => ?_) ⟨.bl _, H, I, rfl, ?_⟩
  · have hy' : y ∈ its := by simpa using hy
    obtain ⟨i, hi, e⟩ := List.mem_iff_getElem.mp hy'
    have e' : its[i]? = some y := by rw [List.getElem?_eq_getElem hi, e]
    have hlen : vs.length = its.length := r.length
    have hiv : i < vs.length := by omega
    obtain ⟨u', hu', ru⟩ := r.get (List.getElem?_eq_getElem hiv)
    rw [e'] at hu'
    cases hu'
    obtain ⟨t, ht, b, hb, hbt⟩ := Paired.get hts (List.getElem?_eq_getElem hiv)
    rw [hb] at ru
    cases ru
    rw [eIn_tm z hbt, ← eqT_tm]
    by_cases hbp : b = p
    · subst hbp
      rw [hp] at hbt
      have e1 : [V.str "variable", V.str z] = t.vs := HO.tup.inj (Option.some.inj hbt)
      rw [← e1, show eqT [V.str "variable", V.str z] [V.str "variable", V.str z] = true from (eqT_tm (.var z) z).trans (decide_eq_true rfl)]
      exact SeqAt.EqAt.same _
    · obtain ⟨itb, rb, plb, hzb⟩ := I.tuple (SqT.of hbt)
      refine SeqAt.EqAt.of_refs hbp ?_
      have lb := rb.length
      have lp := rp.length
      have z1 : itb.toArray.size = t.vs.length := by rw [List.size_toArray, lb]
      have z2 : itp.toArray.size = [V.str "variable", V.str z].length := by rw [List.size_toArray, lp]
      have key := SeqAt.RcAt.tuples (A := X.A.in1) (s := s) (e := fun j => eqV (t.vs.getD j .non) ([V.str "variable", V.str z].getD j .non)) (show s.heap.IsTuple b itb.toArray from plb) (show s.heap.IsTuple p itp.toArray from plp) (by show X.A.units + 1 < cLine; omega) (fun j h1 h2 => by
        have j1 : j < t.vs.length := by omega
        have j2 : j < [V.str "variable", V.str z].length := by omega
        obtain ⟨u1, hu1, r1⟩ := rb.get (List.getElem?_eq_getElem j1)
        obtain ⟨u2, hu2, r2⟩ := rp.get (List.getElem?_eq_getElem j2)
        have a1 : itb.toArray[j] = u1 := by
          have : itb[j]? = some itb.toArray[j] := by simp
          rw [hu1] at this
          exact (Option.some.inj this).symm
        have a2 : itp.toArray[j] = u2 := by
          have : itp[j]? = some itp.toArray[j] := by simp
          rw [hu2] at this
          exact (Option.some.inj this).symm
        rw [a1, a2]
        have g1 : t.vs.getD j .non = t.vs[j] := by simp [List.getD, List.getElem?_eq_getElem j1]
        have g2 : [V.str "variable", V.str z].getD j .non = [V.str "variable", V.str z][j] := by simp [List.getD, List.getElem?_eq_getElem j2]
        show SeqAt.EqAt _ _ _ _ (eqV (t.vs.getD j .non) ([V.str "variable", V.str z].getD j .non))
        rw [g1, g2]
        exact eqAt_V r1 r2 (flat_tm t _ (List.getElem_mem j1)) (flat_tm (.var z) _ (List.getElem_mem (l := (Tm.var z).vs) j2)))
      rw [z1, z2] at key
      exact key
  · rw [show its.toArray.any (eIn H z) = its.any (eIn H z) by simp, any_eIn z hts r]
    exact k
end
end K21

set_option Elab.async false
set_option linter.all false
set_option maxRecDepth 100000
set_option maxHeartbeats 4000000
namespace K21
open PySem PySem.Spec PyProof.Rows L2
def wcol (ws : List (Str × Nat)) (r : Str) : Option Nat := ws.lookup r
def spLitProb : Sp := fun vs H Q _ => ∃ (wd : Addr) (lv b : V) (l : Lit) (ws : List (Str × Nat)) (xs : List Str), vs = [.ref wd, lv, b] ∧ WdAt H wd ws ∧ LitAt H lv l ∧ NmAt H b xs ∧
  ∀ (v : V) (H' : Hp), PrAt H' v (litProb (wcol ws) xs l) → Same H H' → Q v H'
def ResAt (H' : Hp) (v : V) (o : Option Prob × List Str) : Prop := ∃ (a b : Addr) (pv : V), v = .ref a ∧ H' a = some (.tup [pv, .ref b]) ∧ PrAt H' pv o.1 ∧ H' b = some (.lst (o.2.map V.str)) ∧ o.2.length ≤ 20000
def spBodyProb : Sp := fun vs H Q _ => ∃ (wd : Addr) (bv : V) (ls : List Lit) (ws : List (Str × Nat)), vs = [.ref wd, bv] ∧ WdAt H wd ws ∧ BodyAt H bv ls ∧
  ∀ (v : V) (H' : Hp), ResAt H' v (bodyProb (wcol ws) [] ls) → Same H H' → Q v H'
abbrev nBodyProb : List Str := ["_law_widths_here", "_law_body_here", "_law_bound", "_law_literal_here", "_law_problem", "_law_name"]
section
variable {P : Program} {w : World} {K : PySem.W.Frag} {mg : Str → Option Value} {base : Heap} {A : Nm → Addr} {D : Nm → FuncData}
theorem scLitProb : FnScope ["_law_widths_here", "_law_literal_here", "_law_bound", "_law_relation", "_law_terms"] ["_law_widths_here", "_law_literal_here", "_law_bound"] (defScope sLitProb) := ⟨rfl, rfl, rfl, by decide +kernel, rfl, by decide +kernel, by decide +kernel⟩
theorem cutE3 {x y z : V} : cutV [x, y, z] (some ((([x, y, z].length : Nat) : Int) - 2)) none = [y, z] := by rfl
theorem cutE4 {x y z u : V} : cutV [x, y, z, u] (some ((([x, y, z, u].length : Nat) : Int) - 2)) none = [z, u] := by rfl
theorem nwE3 : ¬ (HT.sIx 3 0 (some (((3 : Nat) : Int) - 2)) = 0 ∧ HT.sIx 3 3 none = 3) := by decide +kernel
theorem nwE4 : ¬ (HT.sIx 4 0 (some (((4 : Nat) : Int) - 2)) = 0 ∧ HT.sIx 4 4 none = 4) := by decide +kernel
theorem neInt {n m : Nat} (h : ¬ n = m) : (!decide (V.int (n : Int) = V.int (m : Int))) = true := by
  have z : ¬ V.int (n : Int) = V.int (m : Int) := fun z => h (by have := V.int.inj z; omega)
  rw [decide_eq_false z]
  rfl
theorem valV_rel (ws : List (Str × Nat)) (r : Str) : valV (relK ws) (Sum.inr r) = (wcol ws r).map fun n => V.int (n : Nat) := lookup_none
theorem ok_litprob (T : Txt P K mg A D) : FnOk P w K mg base CX0 2 (A .litprob) (D .litprob) ["_law_widths_here", "_law_literal_here", "_law_bound"] spLitProb := by
  have GLo : FnOk P w K mg base CX0 1 _ _ _ spLoose := ok_loose T
  refine T.litprob.F.ok scLitProb (fun vs H Q E h => ?_) (fun cdv Ar outer s H vs Q E hr h => ?_)
  · obtain ⟨wd, lv, b, l, ws, xs, rfl, _⟩ := h
    rfl
  · obtain ⟨wd, lv, b, l, ws, xs, rfl, W, hl, hb, k⟩ := h
    have hu := hu_of hr
    have hu65 : (Ar.deeper (envOfC "_law_literal_problem" (defScope sLitProb) s.heap.objs.size (A .litprob) cdv)).units + 65 < cLine := by have := hr.un; omega
    obtain ⟨bl, rfl, hbl⟩ := id hb
    refine ⟨_, (pss_cons (ps_if (pt_cmpR op_eq (pe_ix ix_tup (pv 1) pe_int (fun _ _ => rfl)) pe_str (nomark _)) (pss_one (ps_ret (pe_call GLo hr (by rfl) T.loose.g T.loose.kp T.loose.b .nil pass0 (pa_cons (pe_slice sl_tup (pv 1) (po_some pe_int) po_none) (pa_cons (pv 2) (pa_cons pe_bl pa_nil)))))) pss_nil)
      (pss_cons (ps_if (pt_cmpR op_eq (pe_ix ix_tup (pv 1) pe_int (fun _ _ => rfl)) pe_str (nomark _)) (pss_one (ps_ret (pe_call GLo hr (by rfl) T.loose.g T.loose.kp T.loose.b .nil pass0 (pa_cons (pe_slice sl_tup (pv 1) (po_some pe_int) po_none) (pa_cons (pv 2) (pa_cons pe_bl pa_nil)))))) pss_nil)
      (pss_cons (ps_asg (pe_slice sl_tup (pv 1) (po_some (pe_op op_sub (pe_callB call_len_seq (by rfl) T.len PySem.boot_len (pa_cons (pv 1) pa_nil)) pe_int)) po_none) (pg_tup rfl (pgs_cons (pg_name (i := 3) scLitProb.nd rfl (Or.inl rfl)) (pgs_cons (pg_name (i := 4) scLitProb.nd rfl (Or.inl rfl)) pgs_nil))))
      (pss_cons (ps_if (pt_cmp (pc_dnotin hu (pv 3) (pv 0))) (pss_one (ps_ret (pe_tup (pa_cons pe_str (pa_cons (pv 3) pa_nil))))) pss_nil)
      (pss_cons (ps_if (pt_cmpR op_ne (pe_dget hu (pv 0) (pv 3) (fun _ _ => rfl)) (pe_callB call_len_seq (by rfl) T.len PySem.boot_len (pa_cons (pv 4) pa_nil)) (nomark _)) (pss_one (ps_ret (pe_tup (pa_cons pe_str (pa_cons (pv 3) pa_nil))))) pss_nil)
      (pss_cons (ps_if (pt_cmpR op_eq (pe_ix ix_tup (pv 1) pe_int (fun _ _ => rfl)) pe_str (nomark _)) (pss_one (ps_ret (pe_call GLo hr (by rfl) T.loose.g T.loose.kp T.loose.b .nil pass0 (pa_cons (pv 4) (pa_cons (pv 2) (pa_cons pe_bl pa_nil)))))) pss_nil)
      (pss_cons (ps_if (PW.pt (pw_and (pt_cmpR op_eq (pe_ix ix_tup (pv 1) pe_int (fun _ _ => rfl)) pe_str (nomark _)) (pw_and1 (pt_cmpR (op_inTm hu65) (pe_tup (pa_cons pe_str (pa_cons (pe_ix ix_tup (pv 1) pe_int (fun _ _ => rfl)) pa_nil))) (pv 4) (by rfl))))) (pss_one (ps_ret (pe_tup (pa_cons pe_str (pa_cons (pe_ix ix_tup (pv 1) pe_int (fun _ _ => rfl)) pa_nil))))) pss_nil)
      (pss_one (ps_ret pe_non))))))))), ?_⟩
    cases l with
    | cmp o t u =>
      obtain ⟨a, tv, uv, rfl, ha, ht, hu'⟩ := id hl
      refine ⟨_, rfl, a, _, _, _, rfl, rfl, SqT.of ha, by rfl, rfl, _, rfl, ifT (by decide +kernel) ?_⟩
      refine ⟨_, rfl, _, rfl, a, _, rfl, SqT.of ha, nw4, fun q hq => ⟨_, rfl, .ref q, .ref bl, false, [t, u], xs, rfl, ?_, ⟨bl, rfl, Same.upd hq _ _ hbl⟩, fun v' H' p' s' => k _ _ p' (L2.Same.trans (Same.upd hq) s')⟩⟩
      have tu := Tu.upd (o := .tup [tv, uv]) hq
      exact ⟨q, [tv, uv], rfl, upd_same, .cons (ht.tu tu) (.cons (hu'.tu tu) .nil), by show 2 ≤ 100; decide⟩
    | is x o t u =>
      obtain ⟨a, tv, uv, rfl, ha, ht, hu'⟩ := id hl
      refine ⟨_, rfl, a, _, _, _, rfl, rfl, SqT.of ha, by rfl, rfl, _, rfl, ifF (by decide +kernel) ?_⟩
      refine ⟨_, rfl, a, _, _, _, rfl, rfl, SqT.of ha, by rfl, rfl, _, rfl, ifT (by decide +kernel) ?_⟩
      refine ⟨_, rfl, _, rfl, a, _, rfl, SqT.of ha, nw5, fun q hq => ⟨_, rfl, .ref q, .ref bl, false, [t, u], xs, rfl, ?_, ⟨bl, rfl, Same.upd hq _ _ hbl⟩, fun v' H' p' s' => k _ _ p' (L2.Same.trans (Same.upd hq) s')⟩⟩
      have tu := Tu.upd (o := .tup [tv, uv]) hq
      exact ⟨q, [tv, uv], rfl, upd_same, .cons (ht.tu tu) (.cons (hu'.tu tu) .nil), by show 2 ≤ 100; decide⟩
    | fact r ts =>
      obtain ⟨a, tv, rfl, ha, at_, vs, rfl, hat, hts, hz⟩ := id hl
      refine ⟨_, rfl, a, _, _, _, rfl, rfl, SqT.of ha, by rfl, rfl, _, rfl, ifF (by decide +kernel) ?_⟩
      refine ⟨_, rfl, a, _, _, _, rfl, rfl, SqT.of ha, by rfl, rfl, _, rfl, ifF (by decide +kernel) ?_⟩
      refine ⟨_, rfl, _, rfl, a, _, rfl, .inr (SqT.of ha), _, _, rfl, rfl, _, rfl, a, _, rfl, SqT.of ha, nwE3, fun q hq => ⟨q, _, rfl, SqT.of upd_same, rfl, _, _, rfl, _, _, rfl, rfl, ?_⟩⟩
      have s1 : ∀ o, Same H (L2.upd H q o) := fun o => Same.upd hq
      refine ⟨_, rfl, _, rfl, wd, _, rfl, DGet.k (k := Sum.inr r) (s1 _ _ _ W.at_), _, rfl, ?_⟩
      rw [valV_rel]
      have k' : ∀ (v : V) (H' : Hp), PrAt H' v (match wcol ws r with | none => some (.norel r) | some n => if n = ts.length then none else some (.width r)) → Same H H' → Q v H' := k
      cases hc : wcol ws r with
      | none =>
        rw [hc] at k'
        exact iteT ⟨_, rfl, few, fun p hp => k' _ _ ⟨p, rfl, upd_same⟩ (Same.new (s1 _) hp)⟩
      | some n =>
        rw [hc] at k'
        refine iteF ⟨_, rfl, _, rfl, wd, V.int (n : Nat), rfl, dgetS (s1 _ _ _ W.at_) (by rw [valV_rel, hc]; rfl), _, rfl, at_, vs, rfl, .inr (SqT.of (s1 _ _ _ hat)), rfl, _, rfl, ?_⟩
        have el : vs.length = ts.length := Paired.len hts
        rw [el]
        have k2 : ∀ (v : V) (H' : Hp), PrAt H' v (if n = ts.length then none else some (.width r)) → Same H H' → Q v H' := k'
        by_cases hn : n = ts.length
        · rw [if_pos hn] at k2
          refine ifF (by rw [hn]; simp) ?_
          refine ⟨_, rfl, a, _, _, _, rfl, rfl, SqT.of (s1 _ _ _ ha), by rfl, rfl, _, rfl, ifF (by decide +kernel) ?_⟩
          refine ⟨_, rfl, a, _, _, _, rfl, rfl, SqT.of (s1 _ _ _ ha), by rfl, rfl, _, rfl, ifF (by decide +kernel) ?_⟩
          exact k2 _ _ rfl (s1 _)
        · rw [if_neg hn] at k2
          refine ifT (neInt hn) ⟨_, rfl, few, fun p hp => k2 _ _ ⟨p, rfl, upd_same⟩ (Same.new (s1 _) hp)⟩
    | neg r ts =>
      obtain ⟨a, tv, rfl, ha, at_, vs, rfl, hat, hts, hz⟩ := id hl
      refine ⟨_, rfl, a, _, _, _, rfl, rfl, SqT.of ha, by rfl, rfl, _, rfl, ifF (by decide +kernel) ?_⟩
      refine ⟨_, rfl, a, _, _, _, rfl, rfl, SqT.of ha, by rfl, rfl, _, rfl, ifF (by decide +kernel) ?_⟩
      refine ⟨_, rfl, _, rfl, a, _, rfl, .inr (SqT.of ha), _, _, rfl, rfl, _, rfl, a, _, rfl, SqT.of ha, nwE3, fun q hq => ⟨q, _, rfl, SqT.of upd_same, rfl, _, _, rfl, _, _, rfl, rfl, ?_⟩⟩
      have s1 : ∀ o, Same H (L2.upd H q o) := fun o => Same.upd hq
      refine ⟨_, rfl, _, rfl, wd, _, rfl, DGet.k (k := Sum.inr r) (s1 _ _ _ W.at_), _, rfl, ?_⟩
      rw [valV_rel]
      have k' : ∀ (v : V) (H' : Hp), PrAt H' v (match (match wcol ws r with | none => some (Prob.norel r) | some n => if n = ts.length then none else some (.width r)) with | some p => some p | none => loose xs true ts) → Same H H' → Q v H' := k
      cases hc : wcol ws r with
      | none =>
        rw [hc] at k'
        exact iteT ⟨_, rfl, few, fun p hp => k' _ _ ⟨p, rfl, upd_same⟩ (Same.new (s1 _) hp)⟩
      | some n =>
        rw [hc] at k'
        refine iteF ⟨_, rfl, _, rfl, wd, V.int (n : Nat), rfl, dgetS (s1 _ _ _ W.at_) (by rw [valV_rel, hc]; rfl), _, rfl, at_, vs, rfl, .inr (SqT.of (s1 _ _ _ hat)), rfl, _, rfl, ?_⟩
        have el : vs.length = ts.length := Paired.len hts
        rw [el]
        have k2 : ∀ (v : V) (H' : Hp), PrAt H' v (match (if n = ts.length then none else some (Prob.width r)) with | some p => some p | none => loose xs true ts) → Same H H' → Q v H' := k'
        by_cases hn : n = ts.length
        · rw [if_pos hn] at k2
          refine ifF (by rw [hn]; simp) ?_
          refine ⟨_, rfl, a, _, _, _, rfl, rfl, SqT.of (s1 _ _ _ ha), by rfl, rfl, _, rfl, ifT (by decide +kernel) ?_⟩
          refine ⟨_, rfl, _, rfl, .ref at_, .ref bl, true, ts, xs, rfl, ⟨at_, vs, rfl, s1 _ _ _ hat, TmsAt.tu (Tu.same (s1 _)) hts, hz⟩, ⟨bl, rfl, s1 _ _ _ hbl⟩, fun v' H' p' s' => k2 _ _ p' (L2.Same.trans (s1 _) s')⟩
        · rw [if_neg hn] at k2
          refine ifT (neInt hn) ⟨_, rfl, few, fun p hp => k2 _ _ ⟨p, rfl, upd_same⟩ (Same.new (s1 _) hp)⟩
    | cnt x r ts =>
      obtain ⟨a, tv, rfl, ha, at_, vs, rfl, hat, hts, hz⟩ := id hl
      refine ⟨_, rfl, a, _, _, _, rfl, rfl, SqT.of ha, by rfl, rfl, _, rfl, ifF (by decide +kernel) ?_⟩
      refine ⟨_, rfl, a, _, _, _, rfl, rfl, SqT.of ha, by rfl, rfl, _, rfl, ifF (by decide +kernel) ?_⟩
      refine ⟨_, rfl, _, rfl, a, _, rfl, .inr (SqT.of ha), _, _, rfl, rfl, _, rfl, a, _, rfl, SqT.of ha, nwE4, fun q hq => ⟨q, _, rfl, SqT.of upd_same, rfl, _, _, rfl, _, _, rfl, rfl, ?_⟩⟩
      have s1 : ∀ o, Same H (L2.upd H q o) := fun o => Same.upd hq
      refine ⟨_, rfl, _, rfl, wd, _, rfl, DGet.k (k := Sum.inr r) (s1 _ _ _ W.at_), _, rfl, ?_⟩
      rw [valV_rel]
      have k' : ∀ (v : V) (H' : Hp), PrAt H' v (match (match wcol ws r with | none => some (Prob.norel r) | some n => if n = ts.length then none else some (.width r)) with | some p => some p | none => if x ∈ vars ts then some (.own x) else none) → Same H H' → Q v H' := k
      cases hc : wcol ws r with
      | none =>
        rw [hc] at k'
        exact iteT ⟨_, rfl, few, fun p hp => k' _ _ ⟨p, rfl, upd_same⟩ (Same.new (s1 _) hp)⟩
      | some n =>
        rw [hc] at k'
        refine iteF ⟨_, rfl, _, rfl, wd, V.int (n : Nat), rfl, dgetS (s1 _ _ _ W.at_) (by rw [valV_rel, hc]; rfl), _, rfl, at_, vs, rfl, .inr (SqT.of (s1 _ _ _ hat)), rfl, _, rfl, ?_⟩
        have el : vs.length = ts.length := Paired.len hts
        rw [el]
        have k2 : ∀ (v : V) (H' : Hp), PrAt H' v (match (if n = ts.length then none else some (Prob.width r)) with | some p => some p | none => if x ∈ vars ts then some (.own x) else none) → Same H H' → Q v H' := k'
        by_cases hn : n = ts.length
        · rw [if_pos hn] at k2
          have k3 : ∀ (v : V) (H' : Hp), PrAt H' v (if x ∈ vars ts then some (.own x) else none) → Same H H' → Q v H' := k2
          refine ifF (by rw [hn]; simp) ?_
          refine ⟨_, rfl, a, _, _, _, rfl, rfl, SqT.of (s1 _ _ _ ha), by rfl, rfl, _, rfl, ifF (by decide +kernel) ?_⟩
          refine ⟨_, rfl, a, _, _, _, rfl, rfl, SqT.of (s1 _ _ _ ha), by rfl, rfl, _, rfl, ifT (by decide +kernel) ?_⟩
          refine ⟨_, rfl, a, _, _, _, rfl, rfl, SqT.of (s1 _ _ _ ha), by rfl, few, fun p hp => ?_⟩
          have s2 : ∀ o, Same H (L2.upd (L2.upd H q (.tup (cutV [V.str "count", .str x, .str r, .ref at_] (some ((([V.str "count", .str x, .str r, .ref at_].length : Nat) : Int) - 2)) none))) p o) := fun o => Same.new (s1 _) hp
          refine ⟨_, rfl, p, at_, x, vs, ts, rfl, rfl, upd_same, s2 _ _ _ hat, TmsAt.tu (Tu.same (s2 _)) hts, _, rfl, ?_⟩
          by_cases hm : x ∈ vars ts
          · rw [if_pos hm] at k3
            refine ifT (decide_eq_true hm) ⟨_, rfl, a, _, _, _, rfl, rfl, SqT.of (s2 _ _ _ ha), by rfl, few, fun p' hp' => k3 _ _ ⟨p', rfl, upd_same⟩ (Same.new (s2 _) hp')⟩
          · rw [if_neg hm] at k3
            exact ifF (decide_eq_false hm) (k3 _ _ rfl (s2 _))
        · rw [if_neg hn] at k2
          refine ifT (neInt hn) ⟨_, rfl, few, fun p hp => k2 _ _ ⟨p, rfl, upd_same⟩ (Same.new (s1 _) hp)⟩
theorem scBodyProb : FnScope nBodyProb ["_law_widths_here", "_law_body_here"] (defScope sBodyProb) := ⟨rfl, rfl, rfl, by decide +kernel, rfl, by decide +kernel, by decide +kernel⟩
theorem ok_bodyprob (T : Txt P K mg A D) : FnOk P w K mg base CX0 3 (A .bodyprob) (D .bodyprob) ["_law_widths_here", "_law_body_here"] spBodyProb := by
  have GL : FnOk P w K mg base CX0 2 _ _ _ spLitProb := ok_litprob T
  have GB : FnOk P w K mg base CX0 1 _ _ _ spBinds := ok_binds T
  have GE : FnOk P w K mg base CX0 1 _ _ _ spEach := ok_each T
  refine T.bodyprob.F.ok scBodyProb (fun vs H Q E h => ?_) (fun cdv Ar outer s H vs Q E hr2 h => ?_)
  · obtain ⟨wd, bv, ls, ws, rfl, _⟩ := h
    rfl
  · obtain ⟨wd, bv, ls, ws, rfl, W, hb, k⟩ := h
    have hr1 := hr2.mono (j := 1) (by decide)
    obtain ⟨a, vs, rfl, ha, hls, hz⟩ := id hb
    refine ⟨_, (pss_cons (ps_set (i := 2) scBodyProb.nd rfl (Or.inr rfl) (pe_lst pa_nil))
      (pss_cons (ps_for PassesOwn.never rfl (pi_tup (pv 1)) (pg_name (i := 3) scBodyProb.nd rfl (Or.inl rfl)) (pss_cons (ps_set (i := 4) scBodyProb.nd rfl (Or.inl rfl) (pe_call GL hr2 (by rfl) T.litprob.g T.litprob.kp T.litprob.b .nil pass0 (pa_cons (pv 0) (pa_cons (pv 3) (pa_cons (pv 2) pa_nil)))))
      (pss_cons (ps_if (pt_cmp (pc_notN (pv 4))) (pss_one (ps_ret (pe_tup (pa_cons (pv 4) (pa_cons (pv 2) pa_nil))))) pss_nil)
      (pss_one (ps_set (i := 2) scBodyProb.nd rfl (Or.inr rfl) (pe_op op_cat (pv 2) (pe_lc (own := [("_law_name", 5)]) (g := gName 5) rfl scBodyProb.nd (pi_list (pe_call GE hr1 (by rfl) T.each.g T.each.kp T.each.b .nil pass0 (pa_cons (pe_call GB hr1 (by rfl) T.binds.g T.binds.kp T.binds.b .nil pass0 (pa_cons (pv 3) pa_nil)) pa_nil))) (blkOk_by (own := [("_law_name", 5)]) (N := nBodyProb) (sc := defScope sBodyProb) (by decide +kernel)) (fun _ _ _ _ _ => (pg_name (i := 5) scBodyProb.nd rfl (Or.inl rfl))) (fun _ _ _ _ _ => pts_one (pt_cmpR (r := rIn K true) op_notIn_seq (pv 5) (pv 2) (by rfl))) (fun _ _ _ _ _ => (pv 5)))))))))
      (pss_one (ps_ret (pe_tup (pa_cons pe_non (pa_cons (pv 2) pa_nil))))))), ?_⟩
    refine ⟨few, fun b0 hb0 => ?_⟩
    have S0 : Same H (L2.upd H b0 (.lst [])) := Same.upd hb0
    have x0 : L2.upd H b0 (.lst []) b0 = some (.lst []) := upd_same
    generalize L2.upd H b0 (.lst []) = H0 at S0 x0 ⊢
    refine ⟨_, rfl, a, rfl, ⟨_, SqT.of (S0 _ _ ha)⟩, for_tup (K := K) (a := a) (xs := vs)
      (fun i σ H1 => ∃ (b : Addr) (xs : List Str) (v3 v4 : Option V), σ = [some (.ref wd), some (.ref a), some (.ref b), v3, v4, none] ∧ H1 b = some (.lst (xs.map V.str)) ∧ Same H H1 ∧ bodyProb (wcol ws) [] ls = bodyProb (wcol ws) xs (ls.drop i) ∧ xs.length ≤ 100 * i)
      ⟨b0, [], none, none, rfl, x0, S0, rfl, Nat.le_refl _⟩ (fun i σ H1 _ ⟨_, _, _, _, _, _, s, _⟩ => SqT.of (s _ _ ha)) ?_ ?_⟩
    · rintro i lv σ H1 hi ⟨b, xs, v3, v4, rfl, hbx, s1, hp, hx⟩
      obtain ⟨l, hl, q⟩ := Paired.get hls hi
      have il : i < ls.length := (List.getElem?_eq_some_iff.mp hl).1
      rw [drop_more hl] at hp
      have hp' : bodyProb (wcol ws) [] ls = match litProb (wcol ws) xs l with | some p => (some p, xs) | none => bodyProb (wcol ws) (addAll xs l.binds) (ls.drop (i + 1)) := hp
      have q1 := q.tu (Tu.same s1)
      have hbl := q1.binds_len
      refine ⟨_, rfl, _, rfl, _, rfl, wd, lv, .ref b, l, ws, xs, rfl, W.same s1, q1, ⟨b, rfl, hbx⟩, fun pv H2 hpv s2 => ?_⟩
      have s12 := L2.Same.trans s1 s2
      cases hlp : litProb (wcol ws) xs l with
      | some pr =>
        rw [hlp] at hp' hpv
        obtain ⟨pa, rfl, hpa⟩ := id hpv
        refine ⟨_, rfl, _, rfl, iteT ⟨_, rfl, _, rfl, few, fun p hp => ?_⟩⟩
        refine k _ _ ?_ (Same.new s12 hp)
        rw [hp']
        exact ⟨p, b, .ref pa, rfl, upd_same, ⟨pa, rfl, Same.upd hp _ _ hpa⟩, Same.upd hp _ _ (s2 _ _ hbx), by show xs.length ≤ 20000; omega⟩
      | none =>
        rw [hlp] at hp' hpv
        obtain rfl : pv = .non := hpv
        refine ⟨_, rfl, _, rfl, iteF ?_⟩
        have hp2 : bodyProb (wcol ws) [] ls = bodyProb (wcol ws) (addAll xs l.binds) (ls.drop (i + 1)) := hp'
        refine ⟨_, rfl, _, rfl, lv, l, rfl, q.tu (Tu.same s12), fun v' H3 n3 s3 => ?_⟩
        have n3' := n3.nm
        refine ⟨v', l.binds, rfl, n3', by omega, fun v2 H4 n4 s4 => ?_⟩
        obtain ⟨e, rfl, _, he⟩ := n4
        have s34 := L2.Same.trans s3 s4
        have s14 := L2.Same.trans s12 s34
        have hb4 := s34 _ _ (s2 _ _ hbx)
        refine ⟨e, rfl, ⟨_, SqL.of he⟩, fun d hd => ?_⟩
        have ol := once_len l.binds l.binds.length
        refine lc_list (K := K) (a := e) (xs := (once l.binds l.binds.length).map V.str) (fun j H6 => H6 d = some (.lst ((news xs ((once l.binds l.binds.length).take j)).map V.str)) ∧ Same H4 H6)
          ⟨upd_same, Same.upd hd⟩ (fun j H6 _ ⟨_, s⟩ => SqL.of (s _ _ he)) ?_ ?_
        · rintro j y H6 hj ⟨hy, s6⟩
          rw [List.getElem?_map] at hj
          cases hn : (once l.binds l.binds.length)[j]? with
          | none => rw [hn] at hj; cases hj
          | some nm =>
            rw [hn] at hj
            have ey : V.str nm = y := Option.some.inj hj
            subst ey
            have hmore : news xs ((once l.binds l.binds.length).take (j + 1)) = if nm ∈ xs then news xs ((once l.binds l.binds.length).take j) else news xs ((once l.binds l.binds.length).take j) ++ [nm] := by
              rw [take_more hn, news_snoc]
            refine ⟨rfl, _, rfl, _, rfl, b, _, rfl, .inl (SqL.of (s6 _ _ hb4)), rfl, flat_strs _, _, rfl, ?_⟩
            rw [inV_strs]
            show if (!decide (nm ∈ xs)) = true then _ else _
            by_cases hm : nm ∈ xs
            · rw [decide_eq_true hm]
              rw [if_pos hm] at hmore
              exact iteF ⟨by rw [hmore]; exact hy, s6⟩
            · rw [decide_eq_false hm]
              rw [if_neg hm] at hmore
              have hlen := news_len xs ((once l.binds l.binds.length).take j)
              have hlen2 : ((once l.binds l.binds.length).take j).length ≤ (once l.binds l.binds.length).length := by rw [List.length_take]; exact Nat.min_le_right _ _
              refine iteT ⟨_, rfl, _, hy, by rw [List.length_map]; exact line4' (by omega), ?_, samePut s6 hd⟩
              rw [upd_same, hmore, List.map_append]
              rfl
        · rintro H6 ⟨hy, s6⟩
          rw [List.length_map, List.take_length] at hy
          have hlen := news_len xs (once l.binds l.binds.length)
          have s16 := L2.Same.trans s14 s6
          refine ⟨b, d, _, _, rfl, rfl, s6 _ _ hb4, hy, ?_, fun p hp => ?_⟩
          · rw [List.length_map, List.length_map]
            exact Nat.le_of_lt (lineB (by omega))
          · refine ⟨p, addAll xs l.binds, _, _, rfl, ?_, Same.new s16 hp, hp2, ?_⟩
            · rw [upd_same, addAll_all, List.map_append]
            · have := addAll_len xs l.binds
              omega
    · rintro σ H1 ⟨b, xs, v3, v4, rfl, hbx, s1, hp, hx⟩
      have e : vs.length = ls.length := Paired.len hls
      rw [e, List.drop_length] at hp
      rw [e] at hx
      have hp' : bodyProb (wcol ws) [] ls = (none, xs) := hp
      refine ⟨_, rfl, few, fun p hpn => ?_⟩
      refine k _ _ ?_ (Same.new s1 hpn)
      rw [hp']
      exact ⟨p, b, .non, rfl, upd_same, rfl, Same.upd hpn _ _ hbx, by show xs.length ≤ 20000; omega⟩
end
end K21

set_option Elab.async false
set_option linter.all false
set_option maxRecDepth 100000
set_option maxHeartbeats 4000000
namespace K21
open PySem PySem.Spec PyProof.Rows L2
/-- the same data, of depth at most n -/
def isF : V → Bool
  | .non => true
  | .int _ => true
  | .str _ => true
  | _ => false
def SameD (H : Hp) : Nat → V → V → Prop
  | 0, x, y => x = y ∧ isF x = true
  | n + 1, x, y => (x = y ∧ isF x = true) ∨ ∃ (a b : Addr) (xs ys : List V), x = .ref a ∧ y = .ref b ∧ ((H a = some (.tup xs) ∧ H b = some (.tup ys)) ∨ (H a = some (.lst xs) ∧ H b = some (.lst ys))) ∧ Paired (SameD H n) xs ys ∧ xs.length ≤ 100000
theorem SameD.same {H H' : Hp} (e : Same H H') : ∀ {n : Nat} {x y : V}, SameD H n x y → SameD H' n x y
  | 0, _, _, h => h
  | n + 1, x, y, h => by
    rcases h with h | ⟨a, b, xs, ys, h1, h2, h3, h4, h5⟩
    · exact .inl h
    · refine .inr ⟨a, b, xs, ys, h1, h2, ?_, Paired.mapP h4 fun _ _ q => SameD.same e q, h5⟩
      rcases h3 with ⟨q1, q2⟩ | ⟨q1, q2⟩
      · exact .inl ⟨e _ _ q1, e _ _ q2⟩
      · exact .inr ⟨e _ _ q1, e _ _ q2⟩
def spSame (n : Nat) : Sp := fun vs H Q _ => ∃ (x y : V), vs = [x, y] ∧ SameD H n x y ∧ ∀ H', Same H H' → Q (.bl true) H'
theorem kit1 {K : PySem.W.Frag} {a b : String} {r : Bool} (h : kitB a b = some r) : PySem.W.kitOne K (.type a) (.type b) = some r := kit_ty h
section
variable {P : Program} {w : World} {K : PySem.W.Frag} {mg : Str → Option Value} {base : Heap} {A : Nm → Addr} {D : Nm → FuncData}
theorem scSame : FnScope ["_law_actual", "_law_expected", "_law_k"] ["_law_actual", "_law_expected"] (defScope sSame) := ⟨rfl, rfl, rfl, by decide +kernel, rfl, by decide +kernel, by decide +kernel⟩
theorem ok_same0 (T : Txt P K mg A D) : FnOk P w K mg base CX0 1 (A .same) (D .same) ["_law_actual", "_law_expected"] (spSame 0) := by
  refine T.same.F.ok scSame (fun vs H Q E h => ?_) (fun cdv Ar outer s H vs Q E hr h => ?_)
  · obtain ⟨x, y, rfl, _⟩ := h
    rfl
  · obtain ⟨x, y, rfl, h, k⟩ := h
    refine ⟨_, (pss_cons (ps_if (pt_cmp (pc_isN (pv 1))) (pss_one (ps_ret (pe_cmp (pc_isN (pv 0)) rfl))) pss_nil)
      (pss_cons (ps_if (pt_val (pe_callB call_isi (by rfl) T.isi (by decide +kernel) (pa_cons (pv 1) (pa_cons (pe_bltn (v := .ty "bool") (by rfl) T.bool (by decide +kernel) rfl) pa_nil)))) (pss_one (ps_ret (pe_and (pe_callB call_isi (by rfl) T.isi (by decide +kernel) (pa_cons (pv 0) (pa_cons (pe_bltn (v := .ty "bool") (by rfl) T.bool (by decide +kernel) rfl) pa_nil))) (pe_one (pe_cmpR op_eq (pv 0) (pv 1) (nomark _)))))) pss_nil)
      (pss_cons (ps_if (pt_val (pe_callB call_isi (by rfl) T.isi (by decide +kernel) (pa_cons (pv 1) (pa_cons (pe_bltn (v := .ty "int") (by rfl) T.int (by decide +kernel) rfl) pa_nil)))) (pss_one (ps_ret (pe_and (pe_callB call_isi (by rfl) T.isi (by decide +kernel) (pa_cons (pv 0) (pa_cons (pe_bltn (v := .ty "int") (by rfl) T.int (by decide +kernel) rfl) pa_nil))) (pe_and (pe_not (pe_callB call_isi (by rfl) T.isi (by decide +kernel) (pa_cons (pv 0) (pa_cons (pe_bltn (v := .ty "bool") (by rfl) T.bool (by decide +kernel) rfl) pa_nil)))) (pe_one (pe_cmpR op_eq (pv 0) (pv 1) (nomark _))))))) pss_nil)
      (pss_cons (ps_if (pt_val (pe_callB call_isi (by rfl) T.isi (by decide +kernel) (pa_cons (pv 1) (pa_cons (pe_bltn (v := .ty "str") (by rfl) T.str (by decide +kernel) rfl) pa_nil)))) (pss_one (ps_ret (pe_and (pe_callB call_isi (by rfl) T.isi (by decide +kernel) (pa_cons (pv 0) (pa_cons (pe_bltn (v := .ty "str") (by rfl) T.str (by decide +kernel) rfl) pa_nil))) (pe_one (pe_cmpR op_eq (pv 0) (pv 1) (nomark _)))))) pss_nil)
      pss_never)))), ?_⟩
    obtain ⟨rfl, hf⟩ := h
    have kk := k H (L2.Same.refl H)
    cases x with
    | non => exact ⟨_, rfl, _, rfl, ifT (by decide +kernel) ⟨_, rfl, kk⟩⟩
    | int i =>
      refine ⟨_, rfl, _, rfl, ifF (by rfl) ?_⟩
      refine ⟨_, rfl, _, _, .type "int", _, false, rfl, .ty "bool", .base (.int i), kit1 (by decide +kernel), _, rfl, iteF ?_⟩
      refine ⟨_, rfl, _, _, .type "int", _, true, rfl, .ty "int", .base (.int i), kit1 (by decide +kernel), _, rfl, iteT ?_⟩
      refine ⟨_, rfl, _, _, .type "int", _, true, rfl, .ty "int", .base (.int i), kit1 (by decide +kernel), _, rfl, iteT ?_⟩
      refine ⟨_, rfl, _, _, .type "int", _, false, rfl, .ty "bool", .base (.int i), kit1 (by decide +kernel), _, rfl, _, rfl, iteT ⟨_, rfl, _, rfl, rfl, ?_⟩⟩
      simpa using kk
    | str z =>
      refine ⟨_, rfl, _, rfl, ifF (by rfl) ?_⟩
      refine ⟨_, rfl, _, _, .type "str", _, false, rfl, .ty "bool", .base (.str z), kit1 (by decide +kernel), _, rfl, iteF ?_⟩
      refine ⟨_, rfl, _, _, .type "str", _, false, rfl, .ty "int", .base (.str z), kit1 (by decide +kernel), _, rfl, iteF ?_⟩
      refine ⟨_, rfl, _, _, .type "str", _, true, rfl, .ty "str", .base (.str z), kit1 (by decide +kernel), _, rfl, iteT ?_⟩
      refine ⟨_, rfl, _, _, .type "str", _, true, rfl, .ty "str", .base (.str z), kit1 (by decide +kernel), _, rfl, iteT ⟨_, rfl, _, rfl, rfl, ?_⟩⟩
      simpa using kk
    | _ => cases hf
theorem ok_same (T : Txt P K mg A D) : ∀ n : Nat, FnOk P w K mg base CX0 (n + 1) (A .same) (D .same) ["_law_actual", "_law_expected"] (spSame n)
  | 0 => ok_same0 T
  | n + 1 => by
    have G : FnOk P w K mg base CX0 (n + 1) _ _ _ (spSame n) := ok_same T n
    refine T.same.F.ok scSame (fun vs H Q E h => ?_) (fun cdv Ar outer s H vs Q E hr h => ?_)
    · obtain ⟨x, y, rfl, _⟩ := h
      rfl
    · obtain ⟨x, y, rfl, h, k⟩ := h
      refine ⟨_, (pss_cons (ps_if (pt_cmp (pc_isN (pv 1))) (pss_one (ps_ret (pe_cmp (pc_isN (pv 0)) rfl))) pss_nil)
      (pss_cons (ps_if (pt_val (pe_callB call_isi (by rfl) T.isi (by decide +kernel) (pa_cons (pv 1) (pa_cons (pe_bltn (v := .ty "bool") (by rfl) T.bool (by decide +kernel) rfl) pa_nil)))) (pss_one (ps_ret (pe_and (pe_callB call_isi (by rfl) T.isi (by decide +kernel) (pa_cons (pv 0) (pa_cons (pe_bltn (v := .ty "bool") (by rfl) T.bool (by decide +kernel) rfl) pa_nil))) (pe_one (pe_cmpR op_eq (pv 0) (pv 1) (nomark _)))))) pss_nil)
      (pss_cons (ps_if (pt_val (pe_callB call_isi (by rfl) T.isi (by decide +kernel) (pa_cons (pv 1) (pa_cons (pe_bltn (v := .ty "int") (by rfl) T.int (by decide +kernel) rfl) pa_nil)))) (pss_one (ps_ret (pe_and (pe_callB call_isi (by rfl) T.isi (by decide +kernel) (pa_cons (pv 0) (pa_cons (pe_bltn (v := .ty "int") (by rfl) T.int (by decide +kernel) rfl) pa_nil))) (pe_and (pe_not (pe_callB call_isi (by rfl) T.isi (by decide +kernel) (pa_cons (pv 0) (pa_cons (pe_bltn (v := .ty "bool") (by rfl) T.bool (by decide +kernel) rfl) pa_nil)))) (pe_one (pe_cmpR op_eq (pv 0) (pv 1) (nomark _))))))) pss_nil)
      (pss_cons (ps_if (pt_val (pe_callB call_isi (by rfl) T.isi (by decide +kernel) (pa_cons (pv 1) (pa_cons (pe_bltn (v := .ty "str") (by rfl) T.str (by decide +kernel) rfl) pa_nil)))) (pss_one (ps_ret (pe_and (pe_callB call_isi (by rfl) T.isi (by decide +kernel) (pa_cons (pv 0) (pa_cons (pe_bltn (v := .ty "str") (by rfl) T.str (by decide +kernel) rfl) pa_nil))) (pe_one (pe_cmpR op_eq (pv 0) (pv 1) (nomark _)))))) pss_nil)
      (pss_cons (ps_if (PW.pt (pw_and (pt_val (pe_callB call_isi (by rfl) T.isi (by decide +kernel) (pa_cons (pv 1) (pa_cons (pe_bltn (v := .ty "tuple") (by rfl) T.tuple (by decide +kernel) rfl) pa_nil)))) (pw_and1 (pt_not (pt_val (pe_callB call_isi (by rfl) T.isi (by decide +kernel) (pa_cons (pv 0) (pa_cons (pe_bltn (v := .ty "tuple") (by rfl) T.tuple (by decide +kernel) rfl) pa_nil)))))))) (pss_one (ps_ret pe_bl)) pss_nil)
      (pss_cons (ps_if (PW.pt (pw_and (pt_val (pe_callB call_isi (by rfl) T.isi (by decide +kernel) (pa_cons (pv 1) (pa_cons (pe_bltn (v := .ty "list") (by rfl) T.list (by decide +kernel) rfl) pa_nil)))) (pw_and1 (pt_not (pt_val (pe_callB call_isi (by rfl) T.isi (by decide +kernel) (pa_cons (pv 0) (pa_cons (pe_bltn (v := .ty "list") (by rfl) T.list (by decide +kernel) rfl) pa_nil)))))))) (pss_one (ps_ret pe_bl)) pss_nil)
      (pss_cons (ps_if (pt_cmpR op_ne (pe_callB call_len_seq (by rfl) T.len PySem.boot_len (pa_cons (pv 0) pa_nil)) (pe_callB call_len_seq (by rfl) T.len PySem.boot_len (pa_cons (pv 1) pa_nil)) (nomark _)) (pss_one (ps_ret pe_bl)) pss_nil)
      (pss_cons (ps_for PassesOwn.never rfl (pi_range1 (by rfl) T.range (pa_cons (pe_callB call_len_seq (by rfl) T.len PySem.boot_len (pa_cons (pv 1) pa_nil)) pa_nil)) (pg_name (i := 2) scSame.nd rfl (Or.inl rfl)) (pss_one (ps_if (pt_not (pt_val (pe_call G hr (by rfl) T.same.g T.same.kp T.same.b .nil pass0 (pa_cons (pe_ix ix_seq (pv 0) (pv 2) (fun _ _ => rfl)) (pa_cons (pe_ix ix_seq (pv 1) (pv 2) (fun _ _ => rfl)) pa_nil))))) (pss_one (ps_ret pe_bl)) pss_nil)))
      (pss_one (ps_ret pe_bl)))))))))), ?_⟩
      rcases h with h | ⟨a, b, xs, ys, rfl, rfl, hab, hp, hz⟩
      · obtain ⟨rfl, hf⟩ := h
        have kk := k H (L2.Same.refl H)
        cases x with
        | non => exact ⟨_, rfl, _, rfl, ifT (by decide +kernel) ⟨_, rfl, kk⟩⟩
        | int i =>
          refine ⟨_, rfl, _, rfl, ifF (by rfl) ?_⟩
          refine ⟨_, rfl, _, _, .type "int", _, false, rfl, .ty "bool", .base (.int i), kit1 (by decide +kernel), _, rfl, iteF ?_⟩
          refine ⟨_, rfl, _, _, .type "int", _, true, rfl, .ty "int", .base (.int i), kit1 (by decide +kernel), _, rfl, iteT ?_⟩
          refine ⟨_, rfl, _, _, .type "int", _, true, rfl, .ty "int", .base (.int i), kit1 (by decide +kernel), _, rfl, iteT ?_⟩
          refine ⟨_, rfl, _, _, .type "int", _, false, rfl, .ty "bool", .base (.int i), kit1 (by decide +kernel), _, rfl, _, rfl, iteT ⟨_, rfl, _, rfl, rfl, ?_⟩⟩
          simpa using kk
        | str z =>
          refine ⟨_, rfl, _, rfl, ifF (by rfl) ?_⟩
          refine ⟨_, rfl, _, _, .type "str", _, false, rfl, .ty "bool", .base (.str z), kit1 (by decide +kernel), _, rfl, iteF ?_⟩
          refine ⟨_, rfl, _, _, .type "str", _, false, rfl, .ty "int", .base (.str z), kit1 (by decide +kernel), _, rfl, iteF ?_⟩
          refine ⟨_, rfl, _, _, .type "str", _, true, rfl, .ty "str", .base (.str z), kit1 (by decide +kernel), _, rfl, iteT ?_⟩
          refine ⟨_, rfl, _, _, .type "str", _, true, rfl, .ty "str", .base (.str z), kit1 (by decide +kernel), _, rfl, iteT ⟨_, rfl, _, rfl, rfl, ?_⟩⟩
          simpa using kk
        | _ => cases hf
      · have el : xs.length = ys.length := Paired.len hp
        have step : ∀ (i : Nat) (H1 : Hp) (σ : L2.St) (D : Ends), Same H H1 → (hi : i < ys.length) → True := fun _ _ _ _ _ _ => True.intro
        rcases hab with ⟨ha, hb⟩ | ⟨ha, hb⟩
        · refine ⟨_, rfl, _, rfl, ifF (by rfl) ?_⟩
          refine ⟨_, rfl, _, _, .type "tuple", _, false, rfl, .ty "bool", .base (.tup hb), kit1 (by decide +kernel), _, rfl, iteF ?_⟩
          refine ⟨_, rfl, _, _, .type "tuple", _, false, rfl, .ty "int", .base (.tup hb), kit1 (by decide +kernel), _, rfl, iteF ?_⟩
          refine ⟨_, rfl, _, _, .type "tuple", _, false, rfl, .ty "str", .base (.tup hb), kit1 (by decide +kernel), _, rfl, iteF ?_⟩
          refine ⟨_, rfl, _, _, .type "tuple", _, true, rfl, .ty "tuple", .base (.tup hb), kit1 (by decide +kernel), _, rfl, iteT ⟨_, rfl, _, _, .type "tuple", _, true, rfl, .ty "tuple", .base (.tup ha), kit1 (by decide +kernel), _, rfl, iteF ?_⟩⟩
          refine ⟨_, rfl, _, _, .type "tuple", _, false, rfl, .ty "list", .base (.tup hb), kit1 (by decide +kernel), _, rfl, iteF (iteF ?_)⟩
          refine ⟨_, rfl, a, xs, rfl, .inr (SqT.of ha), _, rfl, b, ys, rfl, .inr (SqT.of hb), rfl, _, rfl, ifF (by rw [el]; simp) ?_⟩
          refine ⟨_, rfl, b, ys, rfl, .inr (SqT.of hb), _, rfl, by omega, by omega, ?_⟩
          have hn : ((ys.length : Nat) : Int).toNat = ys.length := rfl
          rw [hn]
          refine for_range (lo := 0) (n := ys.length) (fun i σ H1 => (∃ v2 : Option V, σ = [some (.ref a), some (.ref b), v2]) ∧ Same H H1) ⟨⟨_, rfl⟩, L2.Same.refl _⟩ ?_ ?_
          · rintro i σ H1 hi ⟨⟨v2, rfl⟩, s1⟩
            have e0 : V.int (0 + (i : Int)) = V.int (i : Int) := by rw [Int.zero_add]
            show gName 2 (V.int (0 + (i : Int))) _ _ _
            rw [e0]
            have hi' : i < xs.length := by omega
            have gx : xs[i]? = some xs[i] := List.getElem?_eq_getElem hi'
            obtain ⟨y, gy, q⟩ := Paired.get hp gx
            exact ⟨_, rfl, _, rfl, .inr (.inl ⟨a, xs, _, _, rfl, rfl, SqT.of (s1 _ _ ha), atI_nat gx, _, rfl, _, rfl, .inr (.inl ⟨b, ys, _, _, rfl, rfl, SqT.of (s1 _ _ hb), atI_nat gy, _, _, rfl, q.same s1, fun H2 s2 => ⟨_, rfl, iteF ⟨⟨_, rfl⟩, L2.Same.trans s1 s2⟩⟩⟩)⟩)⟩
          · rintro σ H1 ⟨⟨v2, rfl⟩, s1⟩
            exact k _ s1
        · refine ⟨_, rfl, _, rfl, ifF (by rfl) ?_⟩
          refine ⟨_, rfl, _, _, .type "list", _, false, rfl, .ty "bool", .base (.lst hb), kit1 (by decide +kernel), _, rfl, iteF ?_⟩
          refine ⟨_, rfl, _, _, .type "list", _, false, rfl, .ty "int", .base (.lst hb), kit1 (by decide +kernel), _, rfl, iteF ?_⟩
          refine ⟨_, rfl, _, _, .type "list", _, false, rfl, .ty "str", .base (.lst hb), kit1 (by decide +kernel), _, rfl, iteF ?_⟩
          refine ⟨_, rfl, _, _, .type "list", _, false, rfl, .ty "tuple", .base (.lst hb), kit1 (by decide +kernel), _, rfl, iteF (iteF ?_)⟩
          refine ⟨_, rfl, _, _, .type "list", _, true, rfl, .ty "list", .base (.lst hb), kit1 (by decide +kernel), _, rfl, iteT ⟨_, rfl, _, _, .type "list", _, true, rfl, .ty "list", .base (.lst ha), kit1 (by decide +kernel), _, rfl, iteF ?_⟩⟩
          refine ⟨_, rfl, a, xs, rfl, .inl (SqL.of ha), _, rfl, b, ys, rfl, .inl (SqL.of hb), rfl, _, rfl, ifF (by rw [el]; simp) ?_⟩
          refine ⟨_, rfl, b, ys, rfl, .inl (SqL.of hb), _, rfl, by omega, by omega, ?_⟩
          have hn : ((ys.length : Nat) : Int).toNat = ys.length := rfl
          rw [hn]
          refine for_range (lo := 0) (n := ys.length) (fun i σ H1 => (∃ v2 : Option V, σ = [some (.ref a), some (.ref b), v2]) ∧ Same H H1) ⟨⟨_, rfl⟩, L2.Same.refl _⟩ ?_ ?_
          · rintro i σ H1 hi ⟨⟨v2, rfl⟩, s1⟩
            have e0 : V.int (0 + (i : Int)) = V.int (i : Int) := by rw [Int.zero_add]
            show gName 2 (V.int (0 + (i : Int))) _ _ _
            rw [e0]
            have hi' : i < xs.length := by omega
            have gx : xs[i]? = some xs[i] := List.getElem?_eq_getElem hi'
            obtain ⟨y, gy, q⟩ := Paired.get hp gx
            exact ⟨_, rfl, _, rfl, .inl ⟨a, xs, _, _, rfl, rfl, SqL.of (s1 _ _ ha), atI_nat gx, _, rfl, _, rfl, .inl ⟨b, ys, _, _, rfl, rfl, SqL.of (s1 _ _ hb), atI_nat gy, _, _, rfl, q.same s1, fun H2 s2 => ⟨_, rfl, iteF ⟨⟨_, rfl⟩, L2.Same.trans s1 s2⟩⟩⟩⟩⟩
          · rintro σ H1 ⟨⟨v2, rfl⟩, s1⟩
            exact k _ s1
end
end K21

set_option Elab.async false
set_option linter.all false
set_option maxRecDepth 100000
set_option maxHeartbeats 4000000
namespace K21
open PySem PySem.Spec PyProof.Rows L2
/-- the law's own world: the relations, the rules -/
structure WorldAt (H : Hp) (wo rl ru : Addr) (rels : List (Str × Nat)) (ruk : List (Key × V)) (rus : List Rul) : Prop where
  wo_ : H wo = some (.dK [(Sum.inr ("relations" : Str), .ref rl), (Sum.inr ("rules" : Str), .ref ru)])
  rl_ : H rl = some (.dK (relK rels))
  ru_ : H ru = some (.dK ruk)
  pr : Paired (RuAt H) ruk rus
def foldRu (rus : List Rul) : List (Key × V) := rus.foldl (fun acc r => putK acc (Sum.inr r.2.1) (V.int (r.2.2 : Nat))) []
def spWidths : Sp := fun vs H Q _ => ∃ (wo rl ru : Addr) (rels : List (Str × Nat)) (ruk : List (Key × V)) (rus : List Rul), vs = [.ref wo] ∧ WorldAt H wo rl ru rels ruk rus ∧ (rus.map (·.1)).Nodup ∧ rus.length ≤ 10 ∧ rels.length ≤ 10 ∧
  ∀ (wd : Addr) (H' : Hp), H' wd = some (.dK (mergeK (foldRu rus) (relK rels))) → Same H H' → Q (.ref wd) H'
abbrev nWidths : List Str := ["_law_world", "_law_widths_here", "_law_name"]
theorem foldRu_take {rus : List Rul} {i : Nat} {r : Rul} (h : rus[i]? = some r) : foldRu (rus.take (i + 1)) = putK (foldRu (rus.take i)) (Sum.inr r.2.1) (V.int (r.2.2 : Nat)) := by
  unfold foldRu
  rw [List.take_add_one, h]
  simp [List.foldl_append]
theorem foldRu_len (rus : List Rul) : ∀ acc : List (Key × V), (rus.foldl (fun acc r => putK acc (Sum.inr r.2.1) (V.int (r.2.2 : Nat))) acc).length ≤ acc.length + rus.length := by
  induction rus with
  | nil => intro acc; simp
  | cons r l ih =>
    intro acc
    have a := ih (putK acc (Sum.inr r.2.1) (V.int (r.2.2 : Nat)))
    have b := length_putK acc (Sum.inr r.2.1 : Key) (V.int (r.2.2 : Nat))
    simp only [List.foldl_cons, List.length_cons]
    omega
theorem foldRu_le (rus : List Rul) : (foldRu rus).length ≤ rus.length := by
  have := foldRu_len rus []
  rw [List.length_nil, Nat.zero_add] at this
  exact this
theorem RuAt.tu {H H' : Hp} (e : Tu H H') {kv : Key × V} {r : Rul} (h : RuAt H kv r) : RuAt H' kv r := by
  obtain ⟨q1, a, ta, ba, tvs, q2, q3, q4, q5⟩ := h
  exact ⟨q1, a, ta, ba, tvs, q2, e _ _ q3, e _ _ q4, q5⟩
theorem dgetR {H : Hp} {a : Addr} {kvs : List (Key × V)} {x : Str} {v : V} (e : Rd H a (.dK kvs)) (h : valV kvs (Sum.inr x) = some v) : DGet H a (.str x) (some v) := .inl ⟨kvs, Sum.inr x, e, rfl, h.symm⟩
/-- the rule of the i-th key -/
theorem ru_at {H : Hp} {ruk : List (Key × V)} {rus : List Rul} (p : Paired (RuAt H) ruk rus) (nd : (rus.map (·.1)).Nodup) {i : Nat} {k : Key} {v : V} (h : ruk[i]? = some (k, v)) :
    ∃ (r : Rul) (a ta : Addr) (ba : V) (tvs : List V), rus[i]? = some r ∧ k = Sum.inr r.1 ∧ valV ruk (Sum.inr r.1) = some (.ref a) ∧ H a = some (.tup [.str r.2.1, .ref ta, ba]) ∧ H ta = some (.tup tvs) ∧ tvs.length = r.2.2 := by
  obtain ⟨r, hr, q⟩ := Paired.get p h
  have hm : r ∈ rus := List.mem_of_getElem? hr
  obtain ⟨r', kv, m1, m2, ⟨_, a, ta, ba, tvs, m3, m4, m5, m6⟩, m7⟩ := ru_of p nd (List.mem_map_of_mem hm)
  obtain rfl : r' = r := nodup_fst nd m1 hm m2
  exact ⟨r', a, ta, ba, tvs, hr, q.1, by rw [m7, m3], m4, m5, m6⟩
section
variable {P : Program} {w : World} {K : PySem.W.Frag} {mg : Str → Option Value} {base : Heap} {A : Nm → Addr} {D : Nm → FuncData}
theorem scWidths : FnScope nWidths ["_law_world"] (defScope sWidths) := ⟨rfl, rfl, rfl, by decide +kernel, rfl, by decide +kernel, by decide +kernel⟩
theorem ok_widths (T : Txt P K mg A D) : FnOk P w K mg base CX0 1 (A .widths) (D .widths) ["_law_world"] spWidths := by
  refine T.widths.F.ok scWidths (fun vs H Q E h => ?_) (fun cdv Ar outer s H vs Q E hr h => ?_)
  · obtain ⟨wo, rl, ru, rels, ruk, rus, rfl, _⟩ := h
    rfl
  · obtain ⟨wo, rl, ru, rels, ruk, rus, rfl, W, nd, f1, f2, k⟩ := h
    have hu := hu_of hr
    refine ⟨_, (pss_cons (ps_set (i := 1) scWidths.nd rfl (Or.inl rfl) pe_dnewK)
      (pss_cons (ps_lock (ps_for PassesOwn.never rfl (pi_keys (pe_dget hu (pv 0) pe_str (fun _ _ => rfl))) (pg_name (i := 2) scWidths.nd rfl (Or.inl rfl)) (pss_one (ps_dput hu (pv 1) (pe_ix ix_tup (pe_dget hu (pe_dget hu (pv 0) pe_str (fun _ _ => rfl)) (pv 2) (fun _ _ => rfl)) pe_int (fun _ _ => rfl)) (pe_callB call_len_seq (by rfl) T.len PySem.boot_len (pa_cons (pe_ix ix_tup (pe_dget hu (pe_dget hu (pv 0) pe_str (fun _ _ => rfl)) (pv 2) (fun _ _ => rfl)) pe_int (fun _ _ => rfl)) pa_nil)) (by rfl)))))
      (pss_cons (ps_expr (pe_bm PySem.F.plainAttrs_dict PySem.F.slot_dict_update PySem.F.type_dict_update mt_update (pv 1) (pa_cons (pe_dget hu (pv 0) pe_str (fun _ _ => rfl)) pa_nil)))
      (pss_one (ps_ret (pv 1)))))), ?_⟩
    refine fun wd hwd => ?_
    have s0 : Same H (L2.upd H wd (.dK [])) := Same.upd hwd
    have x0 : L2.upd H wd (.dK []) wd = some (.dK []) := upd_same
    have W0 : WorldAt (L2.upd H wd (.dK [])) wo rl ru rels ruk rus := ⟨s0 _ _ W.wo_, s0 _ _ W.rl_, s0 _ _ W.ru_, Paired.mapP W.pr fun _ _ q => q.tu (Tu.same s0)⟩
    have neu : wd ≠ ru := by
      rintro rfl

      exact nomatch W.ru_.symm.trans hwd
    have nel : wd ≠ rl := by
      rintro rfl
      exact nomatch W.rl_.symm.trans hwd
    generalize L2.upd H wd (.dK []) = H0 at s0 x0 W0 ⊢
    have gW : ∀ {x : Str} {v : V}, valV [((Sum.inr ("relations" : Str) : Key), V.ref rl), (Sum.inr ("rules" : Str), V.ref ru)] (Sum.inr x) = some v → ∀ H1 : Hp, H1 wo = H0 wo → DGet H1 wo (.str x) (some v) := fun h H1 e => dgetS (by rw [e]; exact W0.wo_) h
    have ou : wo ≠ ru := by
      rintro rfl
      have := W.wo_.symm.trans W.ru_
      have e := HO.dK.inj (Option.some.inj this)
      have p := W.pr
      rw [← e] at p
      cases p with
      | cons q t =>
        obtain ⟨q1, a, ta, ba, tvs, q2, q3, _⟩ := q
        have z : rl = a := V.ref.inj q2
        rw [← z, W.rl_] at q3
        cases q3
    refine ⟨ru, _, W0.ru_, True.intro, fun od => ?_⟩
    have hl : ruk.length = rus.length := Paired.len W.pr
    have tu1 : Tu H0 (L2.upd H0 ru (.frz od (.dK ruk))) := Tu.set W0.ru_ (by intro xs z; cases z)
    refine ⟨_, rfl, wo, _, rfl, gW (by rfl) _ (by rw [upd_ne ou]), ru, od, rfl, .inl ⟨ruk, upd_same, ?_⟩⟩
    refine for_it walk_keys (fun i σ H1 => (∃ v2 : Option V, σ = [some (.ref wo), some (.ref wd), v2]) ∧ H1 wd = some (.dK (foldRu (rus.take i))) ∧ H1 ru = some (.frz od (.dK ruk)) ∧ (∀ b o, H0 b = some o → b ≠ ru → b ≠ wd → H1 b = some o))
      ⟨⟨_, rfl⟩, by rw [upd_ne neu]; exact x0, upd_same, fun b o h n _ => by rw [upd_ne n]; exact h⟩ (fun i σ H1 _ p => p.2.2.1) ?_ ?_
    · rintro i x σ H1 H2 hi ⟨⟨v2, rfl⟩, hw, hru, hk⟩ ⟨rfl, kk, vv, hkv, rfl⟩
      have tu2 : Tu H0 H2 := fun b xs h => hk _ _ h (ne_of h W0.ru_ (by intro z; cases z)) (ne_of h x0 (by intro z; cases z))
      obtain ⟨r, a, ta, ba, tvs, h1, rfl, h2, h3, h4, h5⟩ := ru_at W0.pr nd hkv
      have ow : wo ≠ wd := by
        rintro rfl
        exact nomatch W.wo_.symm.trans hwd
      have g1 := gW (x := "rules") (v := .ref ru) (by rfl) H2 (by rw [hk _ _ W0.wo_ ou ow, W0.wo_])
      have g2 : DGet H2 ru (.str r.1) (some (.ref a)) := dgetR (.inr ⟨_, hru⟩) h2
      refine ⟨_, rfl, wo, _, rfl, g1, _, rfl, ru, _, rfl, g2, a, _, _, _, rfl, rfl, SqT.of (tu2 _ _ h3), by rfl, ta, tvs, rfl, .inr (SqT.of (tu2 _ _ h4)), ?_⟩
      refine ⟨_, rfl, _, rfl, wo, _, rfl, g1, _, rfl, ru, _, rfl, g2, a, _, _, _, rfl, rfl, SqT.of (tu2 _ _ h3), by rfl, wd, _, rfl, DPut.k (k := Sum.inr r.2.1) hw ?_, ?_⟩
      · have := foldRu_le (rus.take i)
        rw [List.length_take] at this
        exact line4' (by omega)
      · refine ⟨⟨_, rfl⟩, ?_, by rw [upd_ne neu.symm]; exact hru, fun b o h n1 n2 => by rw [upd_ne n2]; exact hk _ _ h n1 n2⟩
        rw [upd_same, foldRu_take h1, h5]
    · rintro σ H1 ⟨⟨v2, rfl⟩, hw, hru, hk⟩
      refine ⟨hru, ?_⟩
      rw [hl, List.take_length] at hw
      have lw : wd ≠ ru := neu
      have hw' : L2.upd H1 ru (.dK ruk) wd = some (.dK (foldRu rus)) := by rw [upd_ne neu]; exact hw
      have hk' : ∀ b o, H b = some o → L2.upd H1 ru (.dK ruk) b = some o := fun b o h => by
        by_cases e : b = ru
        · subst e
          rw [upd_same, ← W.ru_, h]
        · rw [upd_ne e]
          exact hk _ _ (s0 _ _ h) e (ne_of_none h hwd)
      generalize L2.upd H1 ru (.dK ruk) = H2 at hw' hk' ⊢
      have := foldRu_le rus
      refine ⟨_, rfl, .inr (.inr (.inl ⟨rfl, .inl ⟨_, hw'⟩⟩)), _, rfl, wo, _, rfl, dgetS (hk' _ _ W.wo_) (by rfl), wd, rl, _, _, rfl, rfl, nel, hw', hk' _ _ W.rl_, line4 (by unfold relK; rw [List.length_map]; omega), ?_⟩
      refine ⟨_, rfl, ?_⟩
      exact k _ _ upd_same fun b o h => by rw [upd_ne (ne_of_none h hwd)]; exact hk' _ _ h
end
end K21

set_option Elab.async false
set_option linter.all false
set_option maxRecDepth 100000
set_option maxHeartbeats 4000000
namespace K21
open PySem PySem.Spec PyProof.Rows L2
/-! ### sorted names: one order alone -/
theorem str_ext {a b : Str} (h : a.cps.toList = b.cps.toList) : a = b := by
  obtain ⟨x⟩ := a
  obtain ⟨y⟩ := b
  have : x = y := Array.ext' h
  rw [this]
theorem rising_pw : ∀ {l : List Str} {p : Str}, risingS p l = true → (p :: l).Pairwise (fun a b => a.cps.toList ≤ b.cps.toList)
  | [], p, _ => by simp
  | x :: r, p, h => by
    have h' : (!ltCps x.cps.toList p.cps.toList && risingS x r) = true := h
    rw [Bool.and_eq_true] at h'
    have ih := rising_pw h'.2
    have px : p.cps.toList ≤ x.cps.toList := by
      have q := h'.1
      rw [ltCps_eq] at q
      exact List.not_lt.mp (by simpa using q)
    refine List.Pairwise.cons ?_ ih
    intro b hb
    rcases List.mem_cons.mp hb with rfl | hb'
    · exact px
    · exact List.le_trans px (List.rel_of_pairwise_cons ih hb')
theorem sorted_pw : ∀ {l : List Str}, sortedS l = true → l.Pairwise (fun a b => a.cps.toList ≤ b.cps.toList)
  | [], _ => List.Pairwise.nil
  | x :: r, h => rising_pw h
theorem sorted_one {xs ys zs : List Str} (hx : sortedS xs = true) (hy : sortedS ys = true) (px : xs.Perm zs) (py : ys.Perm zs) : xs = ys :=
  List.Perm.eq_of_pairwise (fun a b _ _ h1 h2 => str_ext (List.le_antisymm h1 h2)) (sorted_pw hx) (sorted_pw hy) (px.trans py.symm)
/-! ### the items of a state -/
inductive It where
  | rel (n : Str) (k : Nat)
  | rul (n r : Str) (hv bv : V)
  | den (n : Str) (v : V)
def It.vs : It → List V
  | .rel n k => [.str "relation", .str n, .int (k : Nat)]
  | .rul n r hv bv => [.str "rule", .str n, .str r, hv, bv]
  | .den n v => [.str "denial", .str n, v]
def ItAt (H : Hp) (v : V) (t : It) : Prop := ∃ a, v = .ref a ∧ H a = some (.tup t.vs)
theorem ItAt.tu {H H' : Hp} (e : Tu H H') {v : V} {t : It} (h : ItAt H v t) : ItAt H' v t := by
  obtain ⟨a, rfl, h⟩ := h
  exact ⟨a, rfl, e _ _ h⟩
def relOf : List It → List (Str × Nat)
  | [] => []
  | .rel n k :: l => (n, k) :: relOf l
  | _ :: l => relOf l
def rulOf : List It → List (Str × Str × V × V)
  | [] => []
  | .rul n r hv bv :: l => (n, r, hv, bv) :: rulOf l
  | _ :: l => rulOf l
def denOf : List It → List (Str × V)
  | [] => []
  | .den n v :: l => (n, v) :: denOf l
  | _ :: l => denOf l
theorem relOf_app : ∀ a b : List It, relOf (a ++ b) = relOf a ++ relOf b
  | [], b => rfl
  | .rel n k :: l, b => by show _ :: relOf (l ++ b) = _; rw [relOf_app]; rfl
  | .rul n r hv bv :: l, b => relOf_app l b
  | .den n v :: l, b => relOf_app l b
theorem rulOf_app : ∀ a b : List It, rulOf (a ++ b) = rulOf a ++ rulOf b
  | [], b => rfl
  | .rel n k :: l, b => rulOf_app l b
  | .rul n r hv bv :: l, b => by show _ :: rulOf (l ++ b) = _; rw [rulOf_app]; rfl
  | .den n v :: l, b => rulOf_app l b
theorem denOf_app : ∀ a b : List It, denOf (a ++ b) = denOf a ++ denOf b
  | [], b => rfl
  | .rel n k :: l, b => denOf_app l b
  | .rul n r hv bv :: l, b => denOf_app l b
  | .den n v :: l, b => by show _ :: denOf (l ++ b) = _; rw [denOf_app]; rfl
def denK (l : List (Str × V)) : List (Key × V) := l.map fun x => (Sum.inr x.1, x.2)
/-- a rule's value: relation, head, body -/
def RvAt (H : Hp) (kv : Key × V) (r : Str × Str × V × V) : Prop := kv.1 = Sum.inr r.1 ∧ ∃ a : Addr, kv.2 = .ref a ∧ H a = some (.tup [.str r.2.1, r.2.2.1, r.2.2.2])
theorem RvAt.tu {H H' : Hp} (e : Tu H H') {kv : Key × V} {r : Str × Str × V × V} (h : RvAt H kv r) : RvAt H' kv r := by
  obtain ⟨h1, a, h2, h3⟩ := h
  exact ⟨h1, a, h2, e _ _ h3⟩
/-- a state while its items are put: the four dicts, all apart -/
structure PtAt (C : Addr) (H : Hp) (p dx dr df du dd : Addr) (its : List It) : Prop where
  ins : H p = some (.ins C dx (flds dr df du dd))
  r_ : H dr = some (.dK (relK (relOf its)))
  f_ : H df = some (.dK [])
  u_ : ∃ ruk, H du = some (.dK ruk) ∧ Paired (RvAt H) ruk (rulOf its)
  d_ : H dd = some (.dK (denK (denOf its)))
  ru : dr ≠ du
  rd : dr ≠ dd
  rf : dr ≠ df
  uf : du ≠ df
  df_ : dd ≠ df
  ud : du ≠ dd
/-- the names, once in each kind -/
structure Once (its : List It) : Prop where
  r : ((relOf its).map (·.1)).Nodup
  u : ((rulOf its).map (·.1)).Nodup
  d : ((denOf its).map (·.1)).Nodup
theorem relK_none {l : List (Str × Nat)} {n : Str} (h : n ∉ l.map (·.1)) : valV (relK l) (Sum.inr n) = none := by
  induction l with
  | nil => rfl
  | cons x l ih =>
    rw [List.map_cons, List.mem_cons, not_or] at h
    exact (valV_neg (fun z => h.1 (Sum.inr.inj z).symm)).trans (ih h.2)
theorem denK_none {l : List (Str × V)} {n : Str} (h : n ∉ l.map (·.1)) : valV (denK l) (Sum.inr n) = none := by
  induction l with
  | nil => rfl
  | cons x l ih =>
    rw [List.map_cons, List.mem_cons, not_or] at h
    exact (valV_neg (fun z => h.1 (Sum.inr.inj z).symm)).trans (ih h.2)
theorem rv_none {H : Hp} : ∀ {ruk : List (Key × V)} {rs : List (Str × Str × V × V)} {n : Str}, Paired (RvAt H) ruk rs → n ∉ rs.map (·.1) → valV ruk (Sum.inr n) = none
  | _, _, _, .nil, _ => rfl
  | _, _, n, .cons q t, h => by
    rw [List.map_cons, List.mem_cons, not_or] at h
    exact (valV_neg (by rw [q.1]; exact fun z => h.1 (Sum.inr.inj z).symm)).trans (rv_none t h.2)
theorem relK_snoc (l : List (Str × Nat)) (n : Str) (k : Nat) (h : n ∉ l.map (·.1)) : putK (relK l) (Sum.inr n) (V.int (k : Nat)) = relK (l ++ [(n, k)]) := by
  rw [putK_new _ (relK_none h)]
  unfold relK
  rw [List.map_append]
  rfl
theorem denK_snoc (l : List (Str × V)) (n : Str) (v : V) (h : n ∉ l.map (·.1)) : putK (denK l) (Sum.inr n) v = denK (l ++ [(n, v)]) := by
  rw [putK_new _ (denK_none h)]
  unfold denK
  rw [List.map_append]
  rfl
theorem relK_len (l : List (Str × Nat)) : (relK l).length = l.length := by unfold relK; rw [List.length_map]
theorem denK_len (l : List (Str × V)) : (denK l).length = l.length := by unfold denK; rw [List.length_map]
theorem relOf_len (l : List It) : (relOf l).length ≤ l.length := by
  induction l with
  | nil => exact Nat.le_refl _
  | cons x l ih => cases x <;> (simp only [relOf, List.length_cons]; omega)
theorem rulOf_len (l : List It) : (rulOf l).length ≤ l.length := by
  induction l with
  | nil => exact Nat.le_refl _
  | cons x l ih => cases x <;> (simp only [rulOf, List.length_cons]; omega)
theorem denOf_len (l : List It) : (denOf l).length ≤ l.length := by
  induction l with
  | nil => exact Nat.le_refl _
  | cons x l ih => cases x <;> (simp only [denOf, List.length_cons]; omega)
end K21

set_option Elab.async false
set_option linter.all false
set_option maxRecDepth 100000
set_option maxHeartbeats 4000000
namespace K21
open PySem PySem.Spec PyProof.Rows L2
/-- State: its class and its methods -/
structure SttT (K : PySem.W.Frag) (mg : Str → Option Value) (C : Addr) (A : Nm → Addr) (D : Nm → FuncData) (fi : Addr) (fdi : FuncData) (rk : Addr) : Prop where
  cls : StC K mg C
  gC : mg "State" = some (.ref C)
  put : Mth K C "put" "State.put" sPut ["self", "item"] (A .put) (D .put)
  tidy : Mth K C "tidy" "State.tidy" sTidy ["self"] (A .tidy) (D .tidy)
  items : Mth K C "all_items" "State.all_items" sItems ["self"] (A .items) (D .items)
  makes : Mk K C fi
  init : ∃ dvs : List V, FunD K "__init__" "State.__init__" (defArgs sSInit) (defBody sSInit) (defScope sSInit) dvs [] fi fdi
  initB : Binds K fdi ["self", "items"] []
  gk : mg "row_key" = some (.ref rk)
/-- all but the dicts of the state stays -/
def Fr3 (dr du dd : Addr) (H H' : Hp) : Prop := ∀ b o, H b = some o → b ≠ dr → b ≠ du → b ≠ dd → H' b = some o
def spPut (C : Addr) : Sp := fun vs H Q _ => ∃ (p dx dr df du dd : Addr) (v : V) (its : List It) (t : It), vs = [.ref p, v] ∧ PtAt C H p dx dr df du dd its ∧ ItAt H v t ∧ Once (its ++ [t]) ∧ its.length ≤ 50 ∧
  ∀ H', PtAt C H' p dx dr df du dd (its ++ [t]) → Fr3 dr du dd H H' → Q .non H'
theorem Fr3.tu {C : Addr} {H H' : Hp} {p dx dr df du dd : Addr} {its : List It} (S : PtAt C H p dx dr df du dd its) (e : Fr3 dr du dd H H') : Tu H H' := fun b xs h => by
  obtain ⟨ruk, hu, _⟩ := S.u_
  exact e _ _ h (ne_of h S.r_ (by intro z; cases z)) (ne_of h hu (by intro z; cases z)) (ne_of h S.d_ (by intro z; cases z))
section
variable {P : Program} {w : World} {K : PySem.W.Frag} {mg : Str → Option Value} {base : Heap} {A : Nm → Addr} {D : Nm → FuncData} {C fi rk : Addr} {fdi : FuncData}
theorem scPut : FnScope ["self", "item", "word", "name"] ["self", "item"] (defScope sPut) := ⟨rfl, rfl, rfl, by decide +kernel, rfl, by decide +kernel, by decide +kernel⟩
theorem nwP3 : ¬ (HT.sIx 3 0 none = 0 ∧ HT.sIx 3 3 (some (2 : Int)) = 3) := by decide +kernel
theorem nwP5 : ¬ (HT.sIx 5 0 none = 0 ∧ HT.sIx 5 5 (some (2 : Int)) = 5) := by decide +kernel
theorem nwR5 : ¬ (HT.sIx 5 0 (some (2 : Int)) = 0 ∧ HT.sIx 5 5 none = 5) := by decide +kernel
theorem ok_put (T : Txt P K mg A D) (S : SttT K mg C A D fi fdi rk) : FnOk P w K mg base CX0 1 (A .put) (D .put) ["self", "item"] (spPut C) := by
  refine S.put.F.ok scPut (fun vs H Q E h => ?_) (fun cdv Ar outer s H vs Q E hr h => ?_)
  · obtain ⟨p, dx, dr, df, du, dd, v, its, t, rfl, _⟩ := h
    rfl
  · obtain ⟨p, dx, dr, df, du, dd, v, its, t, rfl, Z, ht, O, few', k⟩ := h
    have hu := hu_of hr
    refine ⟨_, (pss_cons (ps_asg (pe_slice sl_tup (pv 1) po_none (po_some pe_int)) (pg_tup rfl (pgs_cons (pg_name (i := 2) scPut.nd rfl (Or.inl rfl)) (pgs_cons (pg_name (i := 3) scPut.nd rfl (Or.inl rfl)) pgs_nil))))
      (pss_one (ps_if (pt_cmpR op_eq (pv 2) pe_str (nomark _)) (pss_one (ps_dput hu (pe_fld (pv 0) rfl) (pv 3) (pe_ix ix_tup (pv 1) pe_int (fun _ _ => rfl)) (by rfl))) (pss_one (ps_if (pt_cmpR op_eq (pv 2) pe_str (nomark _)) (pss_one (ps_dput hu (pe_fld (pv 0) rfl) (pv 3) (pe_slice sl_tup (pv 1) (po_some pe_int) po_none) (by rfl))) (pss_one (ps_if (pt_cmpR op_eq (pv 2) pe_str (nomark _)) (pss_one (ps_dput hu (pe_fld (pv 0) rfl) (pv 3) (pe_ix ix_tup (pv 1) pe_int (fun _ _ => rfl)) (by rfl))) pss_never))))))), ?_⟩
    obtain ⟨a, rfl, ha⟩ := ht
    obtain ⟨ruk, hdu, hruk⟩ := Z.u_
    have fin : ∀ {H1 : Hp}, Same H H1 → PtAt C H1 p dx dr df du dd its ∧ H1 a = some (.tup t.vs) := fun s1 =>
      ⟨⟨s1 _ _ Z.ins, s1 _ _ Z.r_, s1 _ _ Z.f_, ⟨ruk, s1 _ _ hdu, Paired.mapP hruk fun _ _ q => q.tu (Tu.same s1)⟩, s1 _ _ Z.d_, Z.ru, Z.rd, Z.rf, Z.uf, Z.df_, Z.ud⟩, s1 _ _ ha⟩
    cases t with
    | rel n m =>
      have nn : n ∉ (relOf its).map (·.1) := by
        have z := O.r
        rw [relOf_app, List.map_append, List.nodup_append] at z
        exact fun h => z.2.2 n h n (List.mem_singleton.mpr rfl) rfl
      refine ⟨_, rfl, _, rfl, a, _, rfl, SqT.of ha, nwP3, fun q hq => ⟨q, _, rfl, SqT.of upd_same, rfl, _, _, rfl, _, _, rfl, rfl, ?_⟩⟩
      have s1 : ∀ o, Same H (L2.upd H q o) := fun o => Same.upd hq
      obtain ⟨Z1, ha1⟩ := fin (s1 (.tup (cutV (It.rel n m).vs none (some 2))))
      have s2 := s1 (.tup (cutV (It.rel n m).vs none (some 2)))
      generalize L2.upd H q (.tup (cutV (It.rel n m).vs none (some 2))) = H1 at Z1 ha1 s2 ⊢
      obtain ⟨ruk1, hdu1, hruk1⟩ := Z1.u_
      refine ⟨_, rfl, rfl, _, rfl, ifT (by decide +kernel) ?_⟩
      refine ⟨_, rfl, a, _, _, _, rfl, rfl, SqT.of ha1, by rfl, _, rfl, p, C, dx, _, _, rfl, Z1.ins, S.cls.cl, S.cls.nR, fld_r, _, rfl, dr, _, rfl, DPut.k (k := Sum.inr n) Z1.r_ (by rw [relK_len]; have := relOf_len its; exact line4' (by omega)), ?_⟩
      have tu1 : ∀ kvs, Tu H1 (L2.upd H1 dr (.dK kvs)) := fun kvs => Tu.set Z1.r_ (by intro xs z; cases z)
      rw [relK_snoc _ _ _ nn]
      refine k _ ⟨?_, ?_, ?_, ⟨ruk1, ?_, ?_⟩, ?_, Z.ru, Z.rd, Z.rf, Z.uf, Z.df_, Z.ud⟩ ?_
      · rw [upd_ne (ne_of Z1.ins Z1.r_ (by intro z; cases z))]; exact Z1.ins
      · rw [upd_same, relOf_app]; rfl
      · rw [upd_ne Z.rf.symm]; exact Z1.f_
      · rw [upd_ne Z.ru.symm]; exact hdu1
      · rw [rulOf_app]
        show Paired _ ruk1 (rulOf its ++ [])
        rw [List.append_nil]
        exact Paired.mapP hruk1 fun _ _ q => q.tu (tu1 _)
      · rw [upd_ne Z.rd.symm, denOf_app]
        show _ = some (HO.dK (denK (denOf its ++ [])))
        rw [List.append_nil]
        exact Z1.d_
      · intro b o hb n1 n2 n3
        rw [upd_ne n1]
        exact s2 _ _ hb
    | rul n r hv bv =>
      have nn : n ∉ (rulOf its).map (·.1) := by
        have z := O.u
        rw [rulOf_app, List.map_append, List.nodup_append] at z
        exact fun h => z.2.2 n h n (List.mem_singleton.mpr rfl) rfl
      refine ⟨_, rfl, _, rfl, a, _, rfl, SqT.of ha, nwP5, fun q hq => ⟨q, _, rfl, SqT.of upd_same, rfl, _, _, rfl, _, _, rfl, rfl, ?_⟩⟩
      have s1 : ∀ o, Same H (L2.upd H q o) := fun o => Same.upd hq
      obtain ⟨Z1, ha1⟩ := fin (s1 (.tup (cutV (It.rul n r hv bv).vs none (some 2))))
      have s2 := s1 (.tup (cutV (It.rul n r hv bv).vs none (some 2)))
      generalize L2.upd H q (.tup (cutV (It.rul n r hv bv).vs none (some 2))) = H1 at Z1 ha1 s2 ⊢
      refine ⟨_, rfl, rfl, _, rfl, ifF (by decide +kernel) ?_⟩
      refine ⟨_, rfl, rfl, _, rfl, ifT (by decide +kernel) ?_⟩
      refine ⟨_, rfl, _, rfl, a, _, rfl, SqT.of ha1, nwR5, fun g hg => ?_⟩
      have s3 : Same H (L2.upd H1 g (.tup (cutV (It.rul n r hv bv).vs (some 2) none))) := Same.new s2 hg
      have xg : L2.upd H1 g (.tup (cutV (It.rul n r hv bv).vs (some 2) none)) g = some (.tup [.str r, hv, bv]) := upd_same
      obtain ⟨Z2, ha2⟩ := fin s3
      generalize L2.upd H1 g (.tup (cutV (It.rul n r hv bv).vs (some 2) none)) = H2 at Z2 ha2 s3 xg ⊢
      obtain ⟨ruk1, hdu1, hruk1⟩ := Z2.u_
      have ll : ruk1.length ≤ 50 := by
        have := Paired.len hruk1
        have := rulOf_len its
        omega
      refine ⟨_, rfl, p, C, dx, _, _, rfl, Z2.ins, S.cls.cl, S.cls.nU, fld_u, _, rfl, du, _, rfl, DPut.k (k := Sum.inr n) hdu1 (line4' (by omega)), ?_⟩
      have tu1 : ∀ kvs, Tu H2 (L2.upd H2 du (.dK kvs)) := fun kvs => Tu.set hdu1 (by intro xs z; cases z)
      rw [putK_new _ (rv_none hruk1 nn)]
      refine k _ ⟨?_, ?_, ?_, ⟨_, upd_same, ?_⟩, ?_, Z.ru, Z.rd, Z.rf, Z.uf, Z.df_, Z.ud⟩ ?_
      · rw [upd_ne (ne_of Z2.ins hdu1 (by intro z; cases z))]; exact Z2.ins
      · rw [upd_ne Z.ru, relOf_app]
        show _ = some (HO.dK (relK (relOf its ++ [])))
        rw [List.append_nil]
        exact Z2.r_
      · rw [upd_ne Z.uf.symm]; exact Z2.f_
      · rw [rulOf_app]
        exact Paired.snoc (Paired.mapP hruk1 fun _ _ q => q.tu (tu1 _)) ⟨rfl, g, rfl, tu1 _ _ _ xg⟩
      · rw [upd_ne Z.ud.symm, denOf_app]
        show _ = some (HO.dK (denK (denOf its ++ [])))
        rw [List.append_nil]
        exact Z2.d_
      · intro b o hb n1 n2 n3
        rw [upd_ne n2]
        exact s3 _ _ hb
    | den n dv =>
      have nn : n ∉ (denOf its).map (·.1) := by
        have z := O.d
        rw [denOf_app, List.map_append, List.nodup_append] at z
        exact fun h => z.2.2 n h n (List.mem_singleton.mpr rfl) rfl
      refine ⟨_, rfl, _, rfl, a, _, rfl, SqT.of ha, nwP3, fun q hq => ⟨q, _, rfl, SqT.of upd_same, rfl, _, _, rfl, _, _, rfl, rfl, ?_⟩⟩
      have s1 : ∀ o, Same H (L2.upd H q o) := fun o => Same.upd hq
      obtain ⟨Z1, ha1⟩ := fin (s1 (.tup (cutV (It.den n dv).vs none (some 2))))
      have s2 := s1 (.tup (cutV (It.den n dv).vs none (some 2)))
      generalize L2.upd H q (.tup (cutV (It.den n dv).vs none (some 2))) = H1 at Z1 ha1 s2 ⊢
      obtain ⟨ruk1, hdu1, hruk1⟩ := Z1.u_
      refine ⟨_, rfl, rfl, _, rfl, ifF (by decide +kernel) ?_⟩
      refine ⟨_, rfl, rfl, _, rfl, ifF (by decide +kernel) ?_⟩
      refine ⟨_, rfl, rfl, _, rfl, ifT (by decide +kernel) ?_⟩
      refine ⟨_, rfl, a, _, _, _, rfl, rfl, SqT.of ha1, by rfl, _, rfl, p, C, dx, _, _, rfl, Z1.ins, S.cls.cl, S.cls.nD, fld_d, _, rfl, dd, _, rfl, DPut.k (k := Sum.inr n) Z1.d_ (by rw [denK_len]; have := denOf_len its; exact line4' (by omega)), ?_⟩
      have tu1 : ∀ kvs, Tu H1 (L2.upd H1 dd (.dK kvs)) := fun kvs => Tu.set Z1.d_ (by intro xs z; cases z)
      rw [denK_snoc _ _ _ nn]
      refine k _ ⟨?_, ?_, ?_, ⟨ruk1, ?_, ?_⟩, ?_, Z.ru, Z.rd, Z.rf, Z.uf, Z.df_, Z.ud⟩ ?_
      · rw [upd_ne (ne_of Z1.ins Z1.d_ (by intro z; cases z))]; exact Z1.ins
      · rw [upd_ne Z.rd, relOf_app]
        show _ = some (HO.dK (relK (relOf its ++ [])))
        rw [List.append_nil]
        exact Z1.r_
      · rw [upd_ne Z.df_.symm]; exact Z1.f_
      · rw [upd_ne Z.ud]; exact hdu1
      · rw [rulOf_app]
        show Paired _ ruk1 (rulOf its ++ [])
        rw [List.append_nil]
        exact Paired.mapP hruk1 fun _ _ q => q.tu (tu1 _)
      · rw [upd_same, denOf_app]; rfl
      · intro b o hb n1 n2 n3
        rw [upd_ne n3]
        exact s2 _ _ hb
end
end K21

set_option Elab.async false
set_option linter.all false
set_option maxRecDepth 100000
set_option maxHeartbeats 4000000
namespace K21
open PySem PySem.Spec PyProof.Rows L2
/-! ### sorted([], key=f) -/
def rSortNil (K : PySem.W.Frag) : List V → List V → Hp → VK → Prop := fun vs zs H Q => ∃ (a f : Addr), vs = [.ref a] ∧ zs = [.ref f] ∧ SqL K H a [] ∧ ∀ p, H p = none → Q (.ref p) (upd H p (.lst []))
theorem cr_sortedNil {X : Cx} : CallRK X (.builtin "sorted") [Str.ofString "key"] (rSortNil X.K) := by
  intro pins s σ H vs zs us ws Q I r rz h
  obtain ⟨a, f, rfl, rfl, hs, q⟩ := h
  obtain rfl := Vals.ref1 r
  obtain ⟨w1, rfl, e1⟩ := vals1 rz
  obtain rfl : w1 = Value.ref f := e1
  obtain ⟨its, rv, hl, _⟩ := I.list hs
  cases rv
  refine PySem.W.sorted_key_data (β := Unit) (R := fun _ _ => True) (bs := []) (vs := []) (f := .ref f) (b := false) (fun _ => PyData.none) hl.isList .nil (fun d hd => by simp at hd) (.inl fun d hd => by simp at hd) (Nat.zero_le _) (fun x hx => by simp at hx)
    (PyProof.Rows.ksk_s1 _ _) (fun _ => PyProof.Rows.ksk_l1 _ _) (fun x => PyProof.Rows.ksk_t1 f x) (fun v x _ hx => by simp at hx) fun out c h' tk keep fresh at' hlen _ => ?_
  have eo : out = [] := List.length_eq_zero_iff.mp hlen
  subst eo
  exact ⟨.ref _, upd H (s.heap.objs.size + 1) (.lst []), I.laid (t' := tk) keep (Nat.le_succ _) ⟨Nat.zero_le _, [], c, .nil, at'⟩, rfl, q _ (I.hok.fresh (Nat.le_succ _))⟩
section
variable {X : Cx}
theorem pe_fldK {K : PySem.W.Frag} {e : Expr} {f : Str} {pos : Pos} {ta : TE} (hK : X.K = K) (he : PE X e ta) (hb : attributeBase e f X.env (eval e X.env) = eval e X.env) : PE X (.Attribute e f pos) (tFld K ta f) := by
  subst hK
  exact pe_fld he hb
def rLenS (K : PySem.W.Frag) : List V → Hp → VK → Prop := fun xs H Q => ∃ p ys, xs = [.ref p] ∧ (SqL K H p ys ∨ SqT K H p ys) ∧ Q (.int ys.length) H
theorem call_lenS : CallR X (.builtin "len") (rLenS X.K) := call_len_seq
end
/-! ### a dict comprehension over it -/
theorem dc_it {J : L2.It} {n : Nat} {G : Hp → Prop} {Y : Nat → Hp → V → Hp → Prop} (w : Walk J n G Y) {g : TG} {tt : TT} {tk tv : TE} {vs : List Nat} {σ : L2.St} {H1 : Hp} {D : Addr} {Qd : Hp → Prop} (Pv : Nat → Hp → Prop) (h0 : Pv 0 (upd H1 D (.dK []))) (hG : ∀ i H, i ≤ n → Pv i H → G H)
    (hs : ∀ i x H H', i < n → Pv i H → Y i H x H' → g x (wipe σ vs) H' fun σ2 H2 => wipe σ2 vs = wipe σ vs ∧ tt σ2 H2 fun b H3 =>
      if b = true then tk σ2 H3 fun y H4 => tv σ2 H4 fun z H5 => ∃ kvs k, y = kV k ∧ H5 D = some (.dK kvs) ∧ kvs.length < sizeLine ∧ Pv (i + 1) (upd H5 D (.dK (putK kvs k z))) else Pv (i + 1) H3) (hd : ∀ H, Pv n H → Qd H) :
    ∃ W : Nat → Nat → Hp → Prop, (∃ m, W 0 m (upd H1 D (.dK []))) ∧ ∀ i m H, W i m H →
      (J.stop i H ∧ Qd H) ∨ (J.go i H ∧ ∃ Nx : Hp → Prop, (∀ H', Nx H' → ∃ m', m' < m ∧ W (i + 1) m' H') ∧ ∀ x H', J.yld i H x H' → g x (wipe σ vs) H' fun σ2 H2 => wipe σ2 vs = wipe σ vs ∧ tt σ2 H2 fun b H3 =>
        if b = true then tk σ2 H3 fun y H4 => tv σ2 H4 fun z H5 => ∃ kvs k, y = kV k ∧ H5 D = some (.dK kvs) ∧ kvs.length < sizeLine ∧ Nx (upd H5 D (.dK (putK kvs k z))) else Nx H3) := by
  refine ⟨fun i m H => m = n - i ∧ i ≤ n ∧ Pv i H, ⟨n, by simp, Nat.zero_le _, h0⟩, ?_⟩
  rintro i m H ⟨rfl, hi, p⟩
  have q := hG i H hi p
  by_cases hlt : i < n
  · refine .inr ⟨w.goes i H hlt q, Pv (i + 1), fun H' p' => ⟨n - (i + 1), by omega, rfl, hlt, p'⟩, fun x H' y => hs i x H H' hlt p (w.yields i H x H' hlt q y)⟩
  · have e : i = n := by omega
    subst e
    exact .inl ⟨w.stops H q, hd H p⟩
/-! ### the facts, all empty -/
def FcAt (H : Hp) (df : Addr) (ns : List Str) : Prop := ∃ fk : List (Key × V), H df = some (.dK fk) ∧ fk.map (·.1) = ns.map Sum.inr ∧ ∀ kv ∈ fk, ∃ l, kv.2 = .ref l ∧ H l = some (.lst [])
/-- a state, tidied -/
structure FlAt (C : Addr) (H : Hp) (p : Addr) (its : List It) : Prop where
  ex : ∃ (dx dr df du dd : Addr) (ruk : List (Key × V)) (ns : List Str), H p = some (.ins C dx (flds dr df du dd)) ∧ H dr = some (.dK (relK (relOf its))) ∧ H du = some (.dK ruk) ∧ Paired (RvAt H) ruk (rulOf its) ∧ H dd = some (.dK (denK (denOf its))) ∧ FcAt H df ns ∧ ns.length ≤ 60
/-- all but the state's own object stays -/
def spTidy (C : Addr) : Sp := fun vs H Q _ => ∃ (p dx dr df du dd : Addr) (its : List It), vs = [.ref p] ∧ PtAt C H p dx dr df du dd its ∧ Once its ∧ its.length ≤ 50 ∧
  ∀ H', FlAt C H' p its → Fr p H H' → Q .non H'
abbrev nTidy : List Str := ["self", "names", "name"]
section
variable {P : Program} {w : World} {K : PySem.W.Frag} {mg : Str → Option Value} {base : Heap} {A : Nm → Addr} {D : Nm → FuncData} {C fi rk : Addr} {fdi : FuncData}
theorem scTidy : FnScope nTidy ["self"] (defScope sTidy) := ⟨rfl, rfl, rfl, by decide +kernel, rfl, by decide +kernel, by decide +kernel⟩
theorem ok_tidy (T : Txt P K mg A D) (S : SttT K mg C A D fi fdi rk) : FnOk P w K mg base CX0 1 (A .tidy) (D .tidy) ["self"] (spTidy C) := by
  refine S.tidy.F.ok scTidy (fun vs H Q E h => ?_) (fun cdv Ar outer s H vs Q E hr h => ?_)
  · obtain ⟨p, dx, dr, df, du, dd, its, rfl, _⟩ := h
    rfl
  · obtain ⟨p, dx, dr, df, du, dd, its, rfl, Z, O, few', k⟩ := h
    have hu := hu_of hr
    refine ⟨_, (pss_cons (ps_set (i := 1) scTidy.nd rfl (Or.inl rfl) (pe_callB cr_sortedS (by rfl) T.sorted (by decide +kernel) (pa_cons (pe_op op_cat (pe_callTy (call_list_dK rfl) (by rfl) T.list (by decide +kernel) (pa_cons (pe_fld (pv 0) rfl) pa_nil)) (pe_lock (pe_lc (own := [("name", 2)]) (g := gName 2) rfl scTidy.nd (pi_keys (pe_fld (pv 0) rfl)) (blkOk_by (own := [("name", 2)]) (N := nTidy) (sc := defScope sTidy) (by decide +kernel)) (fun _ _ _ _ _ => (pg_name (i := 2) scTidy.nd rfl (Or.inl rfl))) (fun _ _ _ _ _ => pts_one (pt_cmpR op_gt (pe_callB (r := rLenS K) call_lenS (by rfl) T.len PySem.boot_len (pa_cons (pe_dget hu (pe_fldK (K := K) rfl (pv 0) rfl) (pv 2) (fun _ _ => rfl)) pa_nil)) pe_int (nomark _))) (fun _ _ _ _ _ => (pv 2))))) pa_nil)))
      (pss_one (ps_fld (pv 0) (pe_dc (own := [("name", 2)]) (g := gName 2) rfl scTidy.nd (pi_list (pv 1)) (blkOk_by (own := [("name", 2)]) (N := nTidy) (sc := defScope sTidy) (by decide +kernel)) (fun _ _ _ _ _ => (pg_name (i := 2) scTidy.nd rfl (Or.inl rfl))) (fun _ _ _ _ _ => pts_nil) (fun _ _ _ _ _ => (pv 2)) (fun _ _ _ _ _ => (pe_callBK (r := rSortNil K) cr_sortedNil (by rfl) T.sorted (by decide +kernel) (pa_cons (pe_dget2 hu (pe_fldK (K := K) rfl (pv 0) rfl) (pv 2) (pe_lst pa_nil) ⟨rfl, rfl, rfl, rfl⟩) pa_nil) (pk_cons (pe_glob (v := .ref rk) (by rfl) S.gk rfl) pk_nil)))) (by rfl)))), ?_⟩
    have lr := relOf_len its
    refine ⟨_, rfl, p, C, dx, _, _, rfl, Z.ins, S.cls.cl, S.cls.nR, fld_r, dr, _, rfl, Z.r_, fun q hq => ?_⟩
    rw [keys_relK]
    have s1 : Same H (L2.upd H q (.lst (((relOf its).map (·.1)).map V.str))) := Same.upd hq
    have x1 : L2.upd H q (.lst (((relOf its).map (·.1)).map V.str)) q = some (.lst (((relOf its).map (·.1)).map V.str)) := upd_same
    generalize L2.upd H q (.lst (((relOf its).map (·.1)).map V.str)) = H1 at s1 x1 ⊢
    have f1 := s1 _ _ Z.f_
    have pdf : p ≠ df := ne_of Z.ins Z.f_ (by intro z; cases z)
    refine ⟨df, _, f1, True.intro, fun od => ?_⟩
    refine ⟨_, rfl, p, C, dx, _, _, rfl, by rw [upd_ne pdf]; exact s1 _ _ Z.ins, S.cls.cl, S.cls.nF, fld_f, df, od, rfl, .inl ⟨[], upd_same, fun e he => ?_⟩⟩
    have edf : e ≠ df := by
      rintro rfl
      rw [upd_same] at he
      cases he
    have he1 : H1 e = none := by rw [upd_ne edf] at he; exact he
    refine lc_it walk_keys (fun i H3 => H3 = L2.upd (L2.upd H1 df (.frz od (.dK []))) e (.lst [])) rfl (fun i H3 _ h => by rw [h, upd_ne edf.symm]; exact upd_same) (fun i x H2 H3 hi => absurd hi (Nat.not_lt_zero _)) ?_
    rintro _ rfl
    refine ⟨by rw [upd_ne edf.symm]; exact upd_same, ?_⟩
    have s2 : Same H (L2.upd (L2.upd (L2.upd H1 df (.frz od (.dK []))) e (.lst [])) df (.dK [])) := fun b o hb => by
      by_cases h : b = df
      · subst h
        rw [upd_same, ← Z.f_, hb]
      · rw [upd_ne h, upd_ne (ne_of_none (s1 _ _ hb) he1), upd_ne h]
        exact s1 _ _ hb
    have q2 : L2.upd (L2.upd (L2.upd H1 df (.frz od (.dK []))) e (.lst [])) df (.dK []) q = some (.lst (((relOf its).map (·.1)).map V.str)) := by
      rw [upd_ne (ne_of x1 f1 (by intro z; cases z)), upd_ne (ne_of_none x1 he1), upd_ne (ne_of x1 f1 (by intro z; cases z))]
      exact x1
    have e2 : L2.upd (L2.upd (L2.upd H1 df (.frz od (.dK []))) e (.lst [])) df (.dK []) e = some (.lst []) := by
      rw [upd_ne edf]
      exact upd_same
    generalize L2.upd (L2.upd (L2.upd H1 df (.frz od (.dK []))) e (.lst [])) df (.dK []) = H2 at s2 q2 e2 ⊢
    refine ⟨q, e, _, _, rfl, rfl, q2, e2, by rw [List.length_map, List.length_map]; exact line4 (by show (relOf its).length + 0 ≤ 1000; omega), fun g hg => ?_⟩
    rw [List.append_nil]
    have s3 := Same.new (o := .lst (((relOf its).map (·.1)).map V.str)) s2 hg
    refine ⟨g, (relOf its).map (·.1), rfl, SqL.of upd_same, by rw [List.length_map]; omega, fun ys u perm _ hu' => ?_⟩
    have s4 := Same.new (o := .lst (ys.map V.str)) s3 hu'
    have u4 : L2.upd (L2.upd H2 g (.lst (((relOf its).map (·.1)).map V.str))) u (.lst (ys.map V.str)) u = some (.lst (ys.map V.str)) := upd_same
    generalize L2.upd (L2.upd H2 g (.lst (((relOf its).map (·.1)).map V.str))) u (.lst (ys.map V.str)) = H4 at s4 u4 ⊢
    have yn : ys.Nodup := perm.symm.nodup O.r
    have yl : ys.length ≤ 50 := by
      have := perm.length_eq
      rw [List.length_map] at this
      omega
    refine ⟨_, rfl, u, rfl, ⟨_, SqL.of u4⟩, fun d hd => ?_⟩
    refine dc_it (walk_list (K := K) (a := u) (xs := ys.map V.str)) (fun i H5 => ∃ fk : List (Key × V), H5 d = some (.dK fk) ∧ fk.map (·.1) = (ys.take i).map Sum.inr ∧ (∀ kv ∈ fk, ∃ l, kv.2 = .ref l ∧ H5 l = some (.lst [])) ∧ Same H4 H5)
      ⟨[], upd_same, rfl, (fun _ h => by simp at h), Same.upd hd⟩ (fun i H5 _ ⟨_, _, _, _, s⟩ => SqL.of (s _ _ u4)) ?_ ?_
    · rintro i x H5 H6 hi ⟨fk, h1, h2, h3, s5⟩ ⟨rfl, hx⟩
      rw [List.getElem?_map] at hx
      cases hy : ys[i]? with
      | none => rw [hy] at hx; cases hx
      | some y =>
        rw [hy] at hx
        have ex : V.str y = x := Option.some.inj hx
        subst ex
        have s45 := L2.Same.trans s4 s5
        refine ⟨rfl, yesT ⟨_, rfl, _, rfl, p, C, dx, _, _, rfl, s45 _ _ Z.ins, S.cls.cl, S.cls.nF, fld_f, df, rfl, .inl ⟨_, .inl (s45 _ _ Z.f_)⟩, _, rfl, few, fun z hz => ?_⟩⟩
        refine ⟨_, DGet.k (k := Sum.inr y) (Same.new s45 hz _ _ Z.f_), ?_⟩
        refine ⟨z, rk, rfl, rfl, SqL.of upd_same, fun m hm => ?_⟩
        have sm := Same.new (o := .lst []) (Same.upd (o := .lst []) hz) hm
        have il : i < ys.length := (List.getElem?_eq_some_iff.mp hy).1
        have fl : fk.length = i := by
          have := congrArg List.length h2
          rw [List.length_map, List.length_map, List.length_take] at this
          omega
        have ny : y ∉ ys.take i := by
          have z := (List.take_sublist (i + 1) ys).nodup yn
          rw [take_more hy, List.nodup_append] at z
          exact fun h => z.2.2 y h y (List.mem_singleton.mpr rfl) rfl
        have nv : valV fk (Sum.inr y) = none := by
          unfold valV
          rw [List.find?_eq_none.mpr]
          · rfl
          · intro kv hkv
            have : kv.1 ∈ (ys.take i).map (Sum.inr : Str → Key) := by rw [← h2]; exact List.mem_map_of_mem hkv
            obtain ⟨y', hy', e'⟩ := List.mem_map.mp this
            rw [← e']
            simpa using fun z : y' = y => ny (z ▸ hy')
        refine ⟨fk, Sum.inr y, rfl, sm _ _ h1, line4' (by omega), fk ++ [(Sum.inr y, .ref m)], by rw [upd_same, putK_new _ nv], ?_, ?_, samePut (L2.Same.trans s5 sm) hd⟩
        · rw [List.map_append, h2, take_more hy, List.map_append]
          rfl
        · have md : m ≠ d := by
            rintro rfl
            have := Same.upd (o := .lst []) hz _ _ h1
            rw [hm] at this
            cases this
          intro kv hkv
          rcases List.mem_append.mp hkv with h | h
          · obtain ⟨l, e1, e2⟩ := h3 _ h
            exact ⟨l, e1, by rw [upd_ne (ne_of e2 h1 (by intro z; cases z))]; exact sm _ _ e2⟩
          · rw [List.mem_singleton] at h
            subst h
            exact ⟨m, rfl, by rw [upd_ne md]; exact upd_same⟩
    · rintro H5 ⟨fk, h1, h2, h3, s5⟩
      rw [List.length_map, List.take_length] at h2
      have s45 := L2.Same.trans s4 s5
      have dp : d ≠ p := by
        rintro rfl
        rw [s4 _ _ Z.ins] at hd
        cases hd
      refine ⟨_, rfl, p, C, dx, _, rfl, s45 _ _ Z.ins, S.cls.cl, S.cls.nF, by show 4 < 1000; decide, ?_⟩
      obtain ⟨ruk, hdu, hruk⟩ := Z.u_
      have tu5 : ∀ fs, Tu H5 (L2.upd H5 p (.ins C dx fs)) := fun fs => Tu.set (s45 _ _ Z.ins) (by intro xs z; cases z)
      refine k _ ⟨dx, dr, d, du, dd, ruk, ys, by rw [upd_same]; rfl, ?_, ?_, ?_, ?_, ?_, by omega⟩ ?_
      · rw [upd_ne (ne_of Z.r_ Z.ins (by intro z; cases z))]; exact s45 _ _ Z.r_
      · rw [upd_ne (ne_of hdu Z.ins (by intro z; cases z))]; exact s45 _ _ hdu
      · exact Paired.mapP hruk fun _ _ q => (q.tu (Tu.same s45)).tu (tu5 _)
      · rw [upd_ne (ne_of Z.d_ Z.ins (by intro z; cases z))]; exact s45 _ _ Z.d_
      · refine ⟨fk, by rw [upd_ne dp]; exact h1, h2, fun kv hkv => ?_⟩
        obtain ⟨l, e1, e2⟩ := h3 _ hkv
        exact ⟨l, e1, by rw [upd_ne (ne_of e2 (s45 _ _ Z.ins) (by intro z; cases z))]; exact e2⟩
      · exact fun b o hb n => by rw [upd_ne n]; exact s45 _ _ hb
end
end K21

set_option Elab.async false
set_option linter.all false
set_option maxRecDepth 100000
set_option maxHeartbeats 4000000
namespace K21
open PySem PySem.Spec PyProof.Rows L2
def spSInit (C : Addr) : Sp := fun vs H Q _ => ∃ (p dx il : Addr) (xs : List V) (its : List It), vs = [.ref p, .ref il] ∧ H p = some (.ins C dx []) ∧ H il = some (.lst xs) ∧ Paired (ItAt H) xs its ∧ Once its ∧ its.length ≤ 50 ∧
  ∀ H', FlAt C H' p its → Fr p H H' → Q .non H'
theorem Once.take {its : List It} (O : Once its) (i : Nat) : Once (its.take i) := by
  have e : its.take i ++ its.drop i = its := List.take_append_drop i its
  obtain ⟨a, b, c⟩ := O
  rw [← e, relOf_app, List.map_append, List.nodup_append] at a
  rw [← e, rulOf_app, List.map_append, List.nodup_append] at b
  rw [← e, denOf_app, List.map_append, List.nodup_append] at c
  exact ⟨a.1, b.1, c.1⟩
section
variable {P : Program} {w : World} {K : PySem.W.Frag} {mg : Str → Option Value} {base : Heap} {A : Nm → Addr} {D : Nm → FuncData} {C fi rk : Addr} {fdi : FuncData}
theorem okD {x qual : Str} {st : Stmt} {dvs : List V} {f : Addr} {fd : FuncData} {N ps : List Str} {k : Nat} {sp : Sp} (F : FunD K x qual (defArgs st) (defBody st) (defScope st) dvs [] f fd) (S : FnScope N ps (defScope st)) (len : ∀ vs H Q E, sp vs H Q E → vs.length = ps.length)
    (hbody : ∀ (cdv : Value) (A : Around) (outer : List Env) (s : Shared) (H : Hp) (vs : List V) (Q : VK) (E : XK), Room k (A.deeper (envOfC qual (defScope st) s.heap.objs.size f cdv)) → sp vs H Q E →
      ∃ t, PSs (cxOf CX0 P w K mg base N qual (defScope st) f cdv A outer s H E).nox (defBody st) t ∧ t { nx := fun _ H' => Q .non H', rt := Q } (L2.start N vs) H) : FnOk P w K mg base CX0 (k + 1) f fd ps sp := by
  refine F.ok S len fun cdv A outer s H vs Q E hr hsp => ?_
  obtain ⟨t, h, q⟩ := hbody cdv A outer s H vs Q E hr hsp
  exact ⟨t, h.nox, q⟩
theorem scSInit : FnScope ["self", "items", "item"] ["self", "items"] (defScope sSInit) := ⟨rfl, rfl, rfl, by decide +kernel, rfl, by decide +kernel, by decide +kernel⟩
theorem ok_sinit (T : Txt P K mg A D) (S : SttT K mg C A D fi fdi rk) : FnOk P w K mg base CX0 2 fi fdi ["self", "items"] (spSInit C) := by
  have GP : FnOk P w K mg base CX0 1 _ _ _ (spPut C) := ok_put T S
  have GT : FnOk P w K mg base CX0 1 _ _ _ (spTidy C) := ok_tidy T S
  obtain ⟨dvs, F⟩ := S.init
  refine okD F scSInit (fun vs H Q E h => ?_) (fun cdv Ar outer s H vs Q E hr1 h => ?_)
  · obtain ⟨p, dx, il, xs, its, rfl, _⟩ := h
    rfl
  · obtain ⟨p, dx, il, xs, its, rfl, hp, hil, hits, O, few', k⟩ := h
    refine ⟨_, (pss_cons (ps_fld (pv 0) pe_dnewK (by rfl))
      (pss_cons (ps_fld (pv 0) pe_dnewK (by rfl))
      (pss_cons (ps_fld (pv 0) pe_dnewK (by rfl))
      (pss_cons (ps_fld (pv 0) pe_dnewK (by rfl))
      (pss_cons (ps_for PassesOwn.never rfl (pi_list (pv 1)) (pg_name (i := 2) scSInit.nd rfl (Or.inl rfl)) (pss_one (ps_expr (pe_meth (pv 0) S.cls.cl S.put.m GP hr1 S.put.b .nil pass0 (pa_cons (pv 2) pa_nil)))))
      (pss_one (ps_expr (pe_meth0 (pv 0) S.cls.cl S.tidy.m GT hr1 S.tidy.b .nil pass0)))))))), ?_⟩
    refine fun dr hr' => ⟨_, rfl, p, C, dx, _, rfl, Same.upd hr' _ _ hp, S.cls.cl, S.cls.nR, by show 0 < 1000; decide, ?_⟩
    have pr : dr ≠ p := by
      rintro rfl
      rw [hp] at hr'
      cases hr'
    have e1 : Fr p H (L2.upd (L2.upd H dr (.dK [])) p (.ins C dx (putF "relations" (.ref dr) []))) := fun b o hb n => by rw [upd_ne n]; exact Same.upd hr' _ _ hb
    have p1 : L2.upd (L2.upd H dr (.dK [])) p (.ins C dx (putF "relations" (.ref dr) [])) p = some (.ins C dx [("relations", .ref dr)]) := upd_same
    have r1 : L2.upd (L2.upd H dr (.dK [])) p (.ins C dx (putF "relations" (.ref dr) [])) dr = some (.dK []) := by rw [upd_ne pr]; exact upd_same
    generalize L2.upd (L2.upd H dr (.dK [])) p (.ins C dx (putF "relations" (.ref dr) [])) = H1 at e1 p1 r1 ⊢
    refine fun df hf' => ⟨_, rfl, p, C, dx, _, rfl, Same.upd hf' _ _ p1, S.cls.cl, S.cls.nF, by show 1 < 1000; decide, ?_⟩
    have pf : df ≠ p := by
      rintro rfl
      rw [p1] at hf'
      cases hf'
    have rf : dr ≠ df := by
      rintro rfl
      rw [r1] at hf'
      cases hf'
    have e2 : Fr p H (L2.upd (L2.upd H1 df (.dK [])) p (.ins C dx (putF "facts" (.ref df) [("relations", .ref dr)]))) := fun b o hb n => by rw [upd_ne n]; exact Same.upd hf' _ _ (e1 _ _ hb n)
    have p2 : L2.upd (L2.upd H1 df (.dK [])) p (.ins C dx (putF "facts" (.ref df) [("relations", .ref dr)])) p = some (.ins C dx [("relations", .ref dr), ("facts", .ref df)]) := by rw [upd_same]; rfl
    have r2 : L2.upd (L2.upd H1 df (.dK [])) p (.ins C dx (putF "facts" (.ref df) [("relations", .ref dr)])) dr = some (.dK []) := by rw [upd_ne pr]; exact Same.upd hf' _ _ r1
    have f2 : L2.upd (L2.upd H1 df (.dK [])) p (.ins C dx (putF "facts" (.ref df) [("relations", .ref dr)])) df = some (.dK []) := by rw [upd_ne pf]; exact upd_same
    generalize L2.upd (L2.upd H1 df (.dK [])) p (.ins C dx (putF "facts" (.ref df) [("relations", .ref dr)])) = H2 at e2 p2 r2 f2 ⊢
    refine fun du hu' => ⟨_, rfl, p, C, dx, _, rfl, Same.upd hu' _ _ p2, S.cls.cl, S.cls.nU, by show 2 < 1000; decide, ?_⟩
    have pu : du ≠ p := by
      rintro rfl
      rw [p2] at hu'
      cases hu'
    have ru : dr ≠ du := by
      rintro rfl
      rw [r2] at hu'
      cases hu'
    have uf : du ≠ df := by
      rintro rfl
      rw [f2] at hu'
      cases hu'
    have e3 : Fr p H (L2.upd (L2.upd H2 du (.dK [])) p (.ins C dx (putF "rules" (.ref du) [("relations", .ref dr), ("facts", .ref df)]))) := fun b o hb n => by rw [upd_ne n]; exact Same.upd hu' _ _ (e2 _ _ hb n)
    have p3 : L2.upd (L2.upd H2 du (.dK [])) p (.ins C dx (putF "rules" (.ref du) [("relations", .ref dr), ("facts", .ref df)])) p = some (.ins C dx [("relations", .ref dr), ("facts", .ref df), ("rules", .ref du)]) := by rw [upd_same]; rfl
    have r3 : L2.upd (L2.upd H2 du (.dK [])) p (.ins C dx (putF "rules" (.ref du) [("relations", .ref dr), ("facts", .ref df)])) dr = some (.dK []) := by rw [upd_ne pr]; exact Same.upd hu' _ _ r2
    have f3 : L2.upd (L2.upd H2 du (.dK [])) p (.ins C dx (putF "rules" (.ref du) [("relations", .ref dr), ("facts", .ref df)])) df = some (.dK []) := by rw [upd_ne pf]; exact Same.upd hu' _ _ f2
    have u3 : L2.upd (L2.upd H2 du (.dK [])) p (.ins C dx (putF "rules" (.ref du) [("relations", .ref dr), ("facts", .ref df)])) du = some (.dK []) := by rw [upd_ne pu]; exact upd_same
    generalize L2.upd (L2.upd H2 du (.dK [])) p (.ins C dx (putF "rules" (.ref du) [("relations", .ref dr), ("facts", .ref df)])) = H3 at e3 p3 r3 f3 u3 ⊢
    refine fun dd hd' => ⟨_, rfl, p, C, dx, _, rfl, Same.upd hd' _ _ p3, S.cls.cl, S.cls.nD, by show 3 < 1000; decide, ?_⟩
    have pd : dd ≠ p := by
      rintro rfl
      rw [p3] at hd'
      cases hd'
    have rd : dr ≠ dd := by
      rintro rfl
      rw [r3] at hd'
      cases hd'
    have fd : dd ≠ df := by
      rintro rfl
      rw [f3] at hd'
      cases hd'
    have ud : du ≠ dd := by
      rintro rfl
      rw [u3] at hd'
      cases hd'
    have e4 : Fr p H (L2.upd (L2.upd H3 dd (.dK [])) p (.ins C dx (putF "denials" (.ref dd) [("relations", .ref dr), ("facts", .ref df), ("rules", .ref du)]))) := fun b o hb n => by rw [upd_ne n]; exact Same.upd hd' _ _ (e3 _ _ hb n)
    have Z4 : PtAt C (L2.upd (L2.upd H3 dd (.dK [])) p (.ins C dx (putF "denials" (.ref dd) [("relations", .ref dr), ("facts", .ref df), ("rules", .ref du)]))) p dx dr df du dd [] :=
      ⟨by rw [upd_same]; rfl, by rw [upd_ne pr]; exact Same.upd hd' _ _ r3, by rw [upd_ne pf]; exact Same.upd hd' _ _ f3, ⟨[], by rw [upd_ne pu]; exact Same.upd hd' _ _ u3, .nil⟩, by rw [upd_ne pd]; exact upd_same, ru, rd, rf, uf, fd, ud⟩
    have hr0 : H dr = none := hr'
    have nu0 : ∀ b o, H b = some o → b ≠ p → b ≠ dr ∧ b ≠ du ∧ b ≠ dd := fun b o hb n => ⟨ne_of_none hb hr0, ne_of_none (e2 _ _ hb n) hu', ne_of_none (e3 _ _ hb n) hd'⟩
    generalize L2.upd (L2.upd H3 dd (.dK [])) p (.ins C dx (putF "denials" (.ref dd) [("relations", .ref dr), ("facts", .ref df), ("rules", .ref du)])) = H4 at e4 Z4 ⊢
    have ilp : il ≠ p := ne_of hil hp (by intro z; cases z)
    have hlen : xs.length = its.length := Paired.len hits
    refine ⟨_, rfl, il, rfl, ⟨_, SqL.of (e4 _ _ hil ilp)⟩, ?_⟩
    refine for_list (K := K) (a := il) (xs := xs) (fun i σ H5 => (∃ v2 : Option V, σ = [some (.ref p), some (.ref il), v2]) ∧ PtAt C H5 p dx dr df du dd (its.take i) ∧ Fr p H H5)
      ⟨⟨_, rfl⟩, Z4, e4⟩ (fun i σ H5 _ q => SqL.of (q.2.2 _ _ hil ilp)) ?_ ?_
    · rintro i x σ H5 hi ⟨⟨v2, rfl⟩, Z5, e5⟩
      obtain ⟨t, ht, hx⟩ := Paired.get hits hi
      have tu5 : Tu H H5 := fun b ys h => e5 _ _ h (ne_of h hp (by intro z; cases z))
      have et : its.take (i + 1) = its.take i ++ [t] := take_more ht
      refine ⟨_, rfl, p, dx, _, rfl, Z5.ins, by rfl, _, rfl, ?_⟩
      refine ⟨p, dx, dr, df, du, dd, x, its.take i, t, rfl, Z5, hx.tu tu5, by rw [← et]; exact O.take _, by rw [List.length_take]; omega, fun H6 Z6 e6 => ?_⟩
      refine ⟨⟨_, rfl⟩, by rw [et]; exact Z6, fun b o hb n => ?_⟩
      obtain ⟨n1, n2, n3⟩ := nu0 b o hb n
      exact e6 _ _ (e5 _ _ hb n) n1 n2 n3
    · rintro σ H5 ⟨⟨v2, rfl⟩, Z5, e5⟩
      rw [hlen, List.take_length] at Z5
      refine ⟨_, rfl, p, dx, _, rfl, Z5.ins, by rfl, ?_⟩
      refine ⟨p, dx, dr, df, du, dd, its, rfl, Z5, O, few', fun H6 L6 e6 => ?_⟩
      exact k _ L6 (e5.trans e6)
end
end K21

set_option Elab.async false
set_option linter.all false
set_option maxRecDepth 100000
set_option maxHeartbeats 4000000
namespace K21
open PySem PySem.Spec PyProof.Rows L2
def relIt (its : List It) (n : Str) : It := .rel n (((relOf its).lookup n).getD 0)
def rulIt (its : List It) (n : Str) : It := match (rulOf its).lookup n with
  | some (r, hv, bv) => .rul n r hv bv
  | none => .rel n 0
def denIt (its : List It) (n : Str) : It := match (denOf its).lookup n with
  | some v => .den n v
  | none => .rel n 0
theorem Paired.append {α β : Type} {G : α → β → Prop} : ∀ {a : List α} {b : List β} {c : List α} {d : List β}, Paired G a b → Paired G c d → Paired G (a ++ c) (b ++ d)
  | _, _, _, _, .nil, q => q
  | _, _, _, _, .cons r t, q => .cons r (Paired.append t q)
structure Srt3 (its : List It) (ys us ds : List Str) : Prop where
  yp : ys.Perm ((relOf its).map (·.1))
  ys_ : sortedS ys = true
  up : us.Perm ((rulOf its).map (·.1))
  us_ : sortedS us = true
  dp : ds.Perm ((denOf its).map (·.1))
  ds_ : sortedS ds = true
theorem Srt3.one {its : List It} {ys us ds ys' us' ds' : List Str} (a : Srt3 its ys us ds) (b : Srt3 its ys' us' ds') : ys = ys' ∧ us = us' ∧ ds = ds' :=
  ⟨sorted_one a.ys_ b.ys_ a.yp b.yp, sorted_one a.us_ b.us_ a.up b.up, sorted_one a.ds_ b.ds_ a.dp b.dp⟩
def outOf (its : List It) (ys us ds : List Str) : List It := ys.map (relIt its) ++ us.map (rulIt its) ++ ds.map (denIt its)
def spItems (C : Addr) : Sp := fun vs H Q _ => ∃ (p : Addr) (its : List It), vs = [.ref p] ∧ FlAt C H p its ∧ its.length ≤ 50 ∧
  ∀ (a : Addr) (xs : List V) (ys us ds : List Str) (H' : Hp), H a = none → H' a = some (.lst xs) → Srt3 its ys us ds → Paired (ItAt H') xs (outOf its ys us ds) → Same H H' → Q (.ref a) H'
abbrev nItems : List Str := ["self", "name", "items", "row"]
theorem rel_look {l : List (Str × Nat)} {n : Str} (h : n ∈ l.map (·.1)) : ∃ k, l.lookup n = some k ∧ valV (relK l) (Sum.inr n) = some (.int (k : Nat)) := by
  obtain ⟨k, h1, _⟩ := lookup_mem h
  exact ⟨k, h1, by rw [lookup_none, h1]; rfl⟩
theorem den_look : ∀ {l : List (Str × V)} {n : Str}, n ∈ l.map (·.1) → ∃ v, l.lookup n = some v ∧ valV (denK l) (Sum.inr n) = some v
  | [], _, h => by simp at h
  | (y, v) :: l, n, h => by
    by_cases e : n = y
    · subst e
      exact ⟨v, by simp [List.lookup], valV_pos rfl⟩
    · have e' : (n == y) = false := by simpa using e
      obtain ⟨u, h1, h2⟩ := den_look (l := l) (n := n) (by
        rw [List.map_cons, List.mem_cons] at h
        exact h.resolve_left e)
      exact ⟨u, by simp [List.lookup, e', h1], (valV_neg (fun z => e (Sum.inr.inj z).symm)).trans h2⟩
theorem rul_look {H : Hp} : ∀ {ruk : List (Key × V)} {l : List (Str × Str × V × V)} {n : Str}, Paired (RvAt H) ruk l → n ∈ l.map (·.1) →
    ∃ (r : Str) (hv bv : V) (a : Addr), l.lookup n = some (r, hv, bv) ∧ valV ruk (Sum.inr n) = some (.ref a) ∧ H a = some (.tup [.str r, hv, bv])
  | _, _, _, .nil, h => by simp at h
  | _, _, n, .cons (b := (y, r, hv, bv)) (l₂ := l) q t, h => by
    by_cases e : n = y
    · subst e
      obtain ⟨q1, a, q2, q3⟩ := q
      exact ⟨r, hv, bv, a, by simp [List.lookup], by rw [valV_pos q1, q2], q3⟩
    · have e' : (n == y) = false := by simpa using e
      obtain ⟨r', hv', bv', a', h1, h2, h3⟩ := rul_look (n := n) t (by
        rw [List.map_cons, List.mem_cons] at h
        exact h.resolve_left e)
      exact ⟨r', hv', bv', a', by simp [List.lookup, e', h1], (valV_neg (by rw [q.1]; exact fun z => e (Sum.inr.inj z).symm)).trans h2, h3⟩
theorem rv_keys {H : Hp} : ∀ {ruk : List (Key × V)} {l : List (Str × Str × V × V)}, Paired (RvAt H) ruk l → ruk.map (·.1) = (l.map (·.1)).map Sum.inr
  | _, _, .nil => rfl
  | _, _, .cons q t => by rw [List.map_cons, List.map_cons, List.map_cons, q.1, rv_keys t]
theorem rel_keys (l : List (Str × Nat)) : (relK l).map (·.1) = (l.map (·.1)).map Sum.inr := by
  unfold relK
  rw [List.map_map, List.map_map]
  rfl
theorem den_keys (l : List (Str × V)) : (denK l).map (·.1) = (l.map (·.1)).map Sum.inr := by
  unfold denK
  rw [List.map_map, List.map_map]
  rfl
theorem fc_look {H : Hp} {df : Addr} {ns : List Str} (h : FcAt H df ns) : ∃ fk : List (Key × V), H df = some (.dK fk) ∧ fk.map (·.1) = ns.map Sum.inr ∧ ∀ n ∈ ns, ∃ l, valV fk (Sum.inr n) = some (.ref l) ∧ H l = some (.lst []) := by
  obtain ⟨fk, h1, h2, h3⟩ := h
  refine ⟨fk, h1, h2, fun n hn => ?_⟩
  have hk : (Sum.inr n : Key) ∈ fk.map (·.1) := by rw [h2]; exact List.mem_map_of_mem hn
  obtain ⟨kv, hkv, e⟩ := List.mem_map.mp hk
  have hs : (valV fk (Sum.inr n)).isSome = true := by
    rw [← valV_any]
    exact List.any_eq_true.mpr ⟨kv, hkv, by simpa using e⟩
  unfold valV at hs ⊢
  cases hf : fk.find? fun kv => decide (kv.1 = Sum.inr n) with
  | none => rw [hf] at hs; cases hs
  | some kv' =>
    obtain ⟨l, e1, e2⟩ := h3 kv' (List.mem_of_find?_eq_some hf)
    exact ⟨l, by show some kv'.2 = _; rw [e1], e2⟩
section
variable {P : Program} {w : World} {K : PySem.W.Frag} {mg : Str → Option Value} {base : Heap} {A : Nm → Addr} {D : Nm → FuncData} {C fi rk : Addr} {fdi : FuncData}
theorem scItems : FnScope nItems ["self"] (defScope sItems) := ⟨rfl, rfl, rfl, by decide +kernel, rfl, by decide +kernel, by decide +kernel⟩
theorem ok_items (T : Txt P K mg A D) (S : SttT K mg C A D fi fdi rk) : FnOk P w K mg base CX0 1 (A .items) (D .items) ["self"] (spItems C) := by
  refine S.items.F.ok scItems (fun vs H Q E h => ?_) (fun cdv Ar outer s H vs Q E hr h => ?_)
  · obtain ⟨p, its, rfl, _⟩ := h
    rfl
  · obtain ⟨p, its, rfl, ⟨dx, dr, df, du, dd, ruk, ns, hp, hdr, hdu, hruk, hdd, hdf, hns⟩, few', k⟩ := h
    have hu := hu_of hr
    refine ⟨_, (pss_cons (ps_setLc (i := 2) (own := [("name", 1)]) (g := gName 1) rfl scItems.nd rfl rfl (sw_true rfl rfl rfl (by decide +kernel)) (pi_list (pe_callB (call_sortedD rfl) (by rfl) T.sorted (by decide +kernel) (pa_cons (pe_fld (pv 0) rfl) pa_nil))) (blkOk_by (own := [("name", 1)]) (N := nItems) (sc := defScope sItems) (by decide +kernel)) (fun _ _ _ _ _ => (pg_name (i := 1) scItems.nd rfl (Or.inl rfl))) (fun _ _ _ _ _ => pts_nil) (fun _ _ _ _ _ => (pe_tup (pa_cons pe_str (pa_cons (pv 1) (pa_cons (pe_dget hu (pe_fldK (K := K) rfl (pv 0) rfl) (pv 1) (fun _ _ => rfl)) pa_nil))))))
      (pss_cons (ps_for PassesOwn.never rfl (pi_list (pe_callB (call_sortedD rfl) (by rfl) T.sorted (by decide +kernel) (pa_cons (pe_fld (pv 0) rfl) pa_nil))) (pg_name (i := 1) scItems.nd rfl (Or.inr rfl)) (pss_one (ps_expr (pe_bm PySem.F.plainAttrs_list PySem.F.slot_list_extend PySem.F.type_list_extend mt_extend (pv 2) (pa_cons (pe_lc (own := [("row", 3)]) (g := gName 3) rfl scItems.nd (pi_list (pe_dget hu (pe_fld (pv 0) rfl) (pv 1) (fun _ _ => rfl))) (blkOk_by (own := [("row", 3)]) (N := nItems) (sc := defScope sItems) (by decide +kernel)) (fun _ _ _ _ _ => (pg_name (i := 3) scItems.nd rfl (Or.inl rfl))) (fun _ _ _ _ _ => pts_nil) (fun _ _ _ _ _ => (pe_tup (pa_cons pe_str (pa_cons (pv 1) (pa_cons (pv 3) pa_nil)))))) pa_nil)))))
      (pss_cons (ps_expr (pe_bm PySem.F.plainAttrs_list PySem.F.slot_list_extend PySem.F.type_list_extend mt_extend (pv 2) (pa_cons (pe_lc (own := [("name", 1)]) (g := gName 1) rfl scItems.nd (pi_list (pe_callB (call_sortedD rfl) (by rfl) T.sorted (by decide +kernel) (pa_cons (pe_fld (pv 0) rfl) pa_nil))) (blkOk_by (own := [("name", 1)]) (N := nItems) (sc := defScope sItems) (by decide +kernel)) (fun _ _ _ _ _ => (pg_name (i := 1) scItems.nd rfl (Or.inl rfl))) (fun _ _ _ _ _ => pts_nil) (fun _ _ _ _ _ => (pe_op (r := rCatT K) op_catT (pe_tup (pa_cons pe_str (pa_cons (pv 1) pa_nil))) (pe_dget hu (pe_fldK (K := K) rfl (pv 0) rfl) (pv 1) (fun _ _ => rfl))))) pa_nil)))
      (pss_cons (ps_expr (pe_bm PySem.F.plainAttrs_list PySem.F.slot_list_extend PySem.F.type_list_extend mt_extend (pv 2) (pa_cons (pe_lc (own := [("name", 1)]) (g := gName 1) rfl scItems.nd (pi_list (pe_callB (call_sortedD rfl) (by rfl) T.sorted (by decide +kernel) (pa_cons (pe_fld (pv 0) rfl) pa_nil))) (blkOk_by (own := [("name", 1)]) (N := nItems) (sc := defScope sItems) (by decide +kernel)) (fun _ _ _ _ _ => (pg_name (i := 1) scItems.nd rfl (Or.inl rfl))) (fun _ _ _ _ _ => pts_nil) (fun _ _ _ _ _ => (pe_tup (pa_cons pe_str (pa_cons (pv 1) (pa_cons (pe_dget hu (pe_fldK (K := K) rfl (pv 0) rfl) (pv 1) (fun _ _ => rfl)) pa_nil)))))) pa_nil)))
      (pss_one (ps_ret (pv 2))))))), ?_⟩
    have snocIt : ∀ {H6 : Hp} {d q : Addr} {zs : List V} {ts : List It} {t : It}, H6 d = some (.lst zs) → H6 q = none → Paired (ItAt H6) zs ts →
        Paired (ItAt (L2.upd (L2.upd H6 q (.tup t.vs)) d (.lst (zs ++ [.ref q])))) (zs ++ [.ref q]) (ts ++ [t]) := fun {H6 d q zs ts t} hz hq hP => by
      have tu : Tu H6 (L2.upd (L2.upd H6 q (.tup t.vs)) d (.lst (zs ++ [.ref q]))) := (Tu.upd hq).trans (Tu.set (Same.upd hq _ _ hz) (by intro xs z; cases z))
      refine Paired.snoc (Paired.mapP hP fun _ _ r => r.tu tu) ⟨q, rfl, ?_⟩
      rw [upd_ne (ne_of_none hz hq).symm]
      exact upd_same
    have lr := relOf_len its
    have lu := rulOf_len its
    have ld := denOf_len its
    -- the relations
    refine ⟨_, rfl, p, C, dx, _, _, rfl, hp, S.cls.cl, S.cls.nR, fld_r, dr, _, (relOf its).map (·.1), rfl, Rd.of hdr, rel_keys _, by rw [List.length_map]; omega, fun ys l yp ysr hl' => ⟨l, rfl, ⟨_, SqL.of upd_same⟩, fun d hd => ?_⟩⟩
    have yl : ys.length ≤ 50 := by
      have := yp.length_eq
      rw [List.length_map] at this
      omega
    have s1 : Same H (L2.upd H l (.lst (ys.map V.str))) := Same.upd hl'
    have x1 : L2.upd H l (.lst (ys.map V.str)) l = some (.lst (ys.map V.str)) := upd_same
    generalize L2.upd H l (.lst (ys.map V.str)) = H1 at s1 x1 hd ⊢
    refine lc_list (K := K) (a := l) (xs := ys.map V.str) (fun j H6 => ∃ zs : List V, H6 d = some (.lst zs) ∧ Paired (ItAt H6) zs ((ys.take j).map (relIt its)) ∧ Same H1 H6)
      ⟨[], upd_same, .nil, Same.upd hd⟩ (fun j H6 _ ⟨_, _, _, s⟩ => SqL.of (s _ _ x1)) ?_ ?_
    · rintro j x H6 hj ⟨zs, hz, hP, s6⟩
      rw [List.getElem?_map] at hj
      cases hy : ys[j]? with
      | none => rw [hy] at hj; cases hj
      | some n =>
        rw [hy] at hj
        have ex : V.str n = x := Option.some.inj hj
        subst ex
        have sh := L2.Same.trans s1 s6
        obtain ⟨m, m1, m2⟩ := rel_look (yp.subset (List.mem_of_getElem? hy))
        have et : It.rel n m = relIt its n := by unfold relIt; rw [m1]; rfl
        refine ⟨rfl, yesT ⟨_, rfl, _, rfl, p, C, dx, _, _, rfl, sh _ _ hp, S.cls.cl, S.cls.nR, fld_r, _, rfl, dr, _, rfl, dgetS (sh _ _ hdr) m2, few, fun q hq => ?_⟩⟩
        have zl : zs.length ≤ 50 := by
          have := Paired.len hP
          rw [List.length_map, List.length_take] at this
          omega
        refine ⟨zs, Same.upd hq _ _ hz, line4' (by omega), zs ++ [.ref q], upd_same, ?_, samePut (Same.new s6 hq) hd⟩
        rw [take_more hy, List.map_append]
        have := snocIt (t := It.rel n m) hz hq hP
        rw [et] at this
        rw [show [V.str (Str.ofString "relation"), V.str n, V.int (m : Nat)] = (relIt its n).vs by rw [← et]; rfl]
        exact this
    · rintro H2 ⟨xs, hx, hP, s2⟩
      rw [List.length_map, List.take_length] at hP
      have sh := L2.Same.trans s1 s2
      have dn : H d = none := s1.free hd
      have xl : xs.length ≤ 50 := by
        have := Paired.len hP
        rw [List.length_map] at this
        omega
      -- the facts
      obtain ⟨fk, hfk, hkeys, hfl⟩ := fc_look hdf
      refine ⟨_, rfl, p, C, dx, _, _, rfl, sh _ _ hp, S.cls.cl, S.cls.nF, fld_f, df, fk, ns, rfl, Rd.of (sh _ _ hfk), hkeys, by omega, fun fs lf fp _ hlf => ⟨lf, rfl, ⟨_, SqL.of upd_same⟩, ?_⟩⟩
      have s3 : Same H (L2.upd H2 lf (.lst (fs.map V.str))) := Same.new sh hlf
      have x3 : L2.upd H2 lf (.lst (fs.map V.str)) lf = some (.lst (fs.map V.str)) := upd_same
      have d3 : L2.upd H2 lf (.lst (fs.map V.str)) d = some (.lst xs) := Same.upd hlf _ _ hx
      have P3 : Paired (ItAt (L2.upd H2 lf (.lst (fs.map V.str)))) xs (ys.map (relIt its)) := Paired.mapP hP fun _ _ r => r.tu (Tu.upd hlf)
      have lfd : lf ≠ d := (ne_of_none hx hlf).symm
      generalize L2.upd H2 lf (.lst (fs.map V.str)) = H3 at s3 x3 d3 P3 ⊢
      refine for_list (K := K) (a := lf) (xs := fs.map V.str) (fun i σ H4 => (∃ v1 : Option V, σ = [some (.ref p), v1, some (.ref d), none]) ∧ H4 d = some (.lst xs) ∧ H4 lf = some (.lst (fs.map V.str)) ∧ Paired (ItAt H4) xs (ys.map (relIt its)) ∧ Same H H4)
        ⟨⟨_, rfl⟩, d3, x3, P3, s3⟩ (fun i σ H4 _ q => SqL.of q.2.2.1) ?_ ?_
      · rintro i x σ H4 hi ⟨⟨v1, rfl⟩, d4, x4, P4, s4⟩
        rw [List.getElem?_map] at hi
        cases hy : fs[i]? with
        | none => rw [hy] at hi; cases hi
        | some n =>
          rw [hy] at hi
          have ex : V.str n = x := Option.some.inj hi
          subst ex
          obtain ⟨e, m2, m3⟩ := hfl n (fp.subset (List.mem_of_getElem? hy))
          refine ⟨_, rfl, .inl ⟨rfl, _, SqL.of d4⟩, _, rfl, p, C, dx, _, _, rfl, s4 _ _ hp, S.cls.cl, S.cls.nF, fld_f, _, rfl, df, _, rfl, dgetS (s4 _ _ hfk) m2, e, rfl, ⟨_, SqL.of (s4 _ _ m3)⟩, fun g hg => ?_⟩
          refine lc_list (K := K) (a := e) (xs := []) (fun j H6 => H6 = L2.upd H4 g (.lst [])) rfl (fun j H6 _ h => by rw [h]; exact SqL.of (Same.upd hg _ _ (s4 _ _ m3))) (fun j x H6 hj => by simp at hj) ?_
          rintro _ rfl
          have gd : g ≠ d := (ne_of_none d4 hg).symm
          refine ⟨d, g, xs, [], rfl, rfl, Same.upd hg _ _ d4, upd_same, line4 (by show xs.length + 0 ≤ 1000; omega), ?_⟩
          rw [List.append_nil]
          have tu4 : Tu H4 (L2.upd (L2.upd H4 g (.lst [])) d (.lst xs)) := (Tu.upd hg).trans (Tu.set (Same.upd hg _ _ d4) (by intro xs z; cases z))
          exact ⟨⟨_, rfl⟩, upd_same, by rw [upd_ne lfd]; exact Same.upd hg _ _ x4, Paired.mapP P4 fun _ _ r => r.tu tu4, samePut (Same.new s4 hg) dn⟩
      · rintro σ H4 ⟨⟨v1, rfl⟩, d4, x4, P4, s4⟩
        -- the rules
        refine ⟨_, rfl, .inl ⟨rfl, _, SqL.of d4⟩, _, rfl, p, C, dx, _, _, rfl, s4 _ _ hp, S.cls.cl, S.cls.nU, fld_u, du, ruk, (rulOf its).map (·.1), rfl, Rd.of (s4 _ _ hdu), rv_keys hruk, by rw [List.length_map]; omega, fun us l2 up usr hl2 => ⟨l2, rfl, ⟨_, SqL.of upd_same⟩, fun g hg => ?_⟩⟩
        have ul : us.length ≤ 50 := by
          have := up.length_eq
          rw [List.length_map] at this
          omega
        have s5 : Same H4 (L2.upd H4 l2 (.lst (us.map V.str))) := Same.upd hl2
        have x5 : L2.upd H4 l2 (.lst (us.map V.str)) l2 = some (.lst (us.map V.str)) := upd_same
        generalize L2.upd H4 l2 (.lst (us.map V.str)) = H5 at s5 x5 hg ⊢
        refine lc_list (K := K) (a := l2) (xs := us.map V.str) (fun j H6 => ∃ zs : List V, H6 g = some (.lst zs) ∧ Paired (ItAt H6) zs ((us.take j).map (rulIt its)) ∧ Same H5 H6)
          ⟨[], upd_same, .nil, Same.upd hg⟩ (fun j H6 _ ⟨_, _, _, s⟩ => SqL.of (s _ _ x5)) ?_ ?_
        · rintro j x H6 hj ⟨zs, hz, hP6, s6⟩
          rw [List.getElem?_map] at hj
          cases hy : us[j]? with
          | none => rw [hy] at hj; cases hj
          | some n =>
            rw [hy] at hj
            have ex : V.str n = x := Option.some.inj hj
            subst ex
            have sh6 := L2.Same.trans s4 (L2.Same.trans s5 s6)
            obtain ⟨r, hv, bv, ra, m1, m2, m3⟩ := rul_look hruk (up.subset (List.mem_of_getElem? hy))
            have et : It.rul n r hv bv = rulIt its n := by unfold rulIt; rw [m1]
            refine ⟨rfl, yesT ⟨_, rfl, few, fun q1 hq1 => ⟨_, rfl, p, C, dx, _, _, rfl, Same.new sh6 hq1 _ _ hp, S.cls.cl, S.cls.nU, fld_u, _, rfl, du, _, rfl, dgetS (Same.new sh6 hq1 _ _ hdu) m2, ?_⟩⟩⟩
            refine ⟨q1, ra, _, _, rfl, rfl, SqT.of upd_same, SqT.of (Same.new sh6 hq1 _ _ m3), List.cons_ne_nil _ _, few, (fun z => absurd z (List.cons_ne_nil _ _)), fun _ q hq => ?_⟩
            have zl : zs.length ≤ 50 := by
              have := Paired.len hP6
              rw [List.length_map, List.length_take] at this
              omega
            have hz1 := Same.upd (o := .tup [.str "rule", .str n]) hq1 _ _ hz
            have hP1 : Paired (ItAt (L2.upd H6 q1 (.tup [.str "rule", .str n]))) zs ((us.take j).map (rulIt its)) := Paired.mapP hP6 fun _ _ r => r.tu (Tu.upd hq1)
            refine ⟨zs, Same.upd hq _ _ hz1, line4' (by omega), zs ++ [.ref q], upd_same, ?_, samePut (Same.new (Same.new s6 hq1) hq) hg⟩
            rw [take_more hy, List.map_append]
            have := snocIt (t := It.rul n r hv bv) hz1 hq hP1
            rw [et] at this
            rw [show [V.str (Str.ofString "rule"), V.str n] ++ [V.str r, hv, bv] = (rulIt its n).vs by rw [← et]; rfl]
            exact this
        · rintro H6 ⟨zs, hz, hP6, s6⟩
          rw [List.length_map, List.take_length] at hP6
          have s46 := L2.Same.trans s5 s6
          have gd : g ≠ d := (ne_of_none (s5 _ _ d4) hg).symm
          have zl : zs.length ≤ 50 := by
            have := Paired.len hP6
            rw [List.length_map] at this
            omega
          refine ⟨d, g, xs, zs, rfl, rfl, s46 _ _ d4, hz, line4 (by omega), ?_⟩
          have tu6 : Tu H6 (L2.upd H6 d (.lst (xs ++ zs))) := Tu.set (s46 _ _ d4) (by intro xs z; cases z)
          have P7 : Paired (ItAt (L2.upd H6 d (.lst (xs ++ zs)))) (xs ++ zs) (ys.map (relIt its) ++ us.map (rulIt its)) := Paired.append (Paired.mapP P4 fun _ _ r => (r.tu (Tu.same s46)).tu tu6) (Paired.mapP hP6 fun _ _ r => r.tu tu6)
          have d7 : L2.upd H6 d (.lst (xs ++ zs)) d = some (.lst (xs ++ zs)) := upd_same
          have s7 : Same H (L2.upd H6 d (.lst (xs ++ zs))) := samePut (L2.Same.trans s4 s46) dn
          generalize L2.upd H6 d (.lst (xs ++ zs)) = H7 at P7 d7 s7 ⊢
          -- the denials
          refine ⟨_, rfl, .inl ⟨rfl, _, SqL.of d7⟩, _, rfl, p, C, dx, _, _, rfl, s7 _ _ hp, S.cls.cl, S.cls.nD, fld_d, dd, _, (denOf its).map (·.1), rfl, Rd.of (s7 _ _ hdd), den_keys _, by rw [List.length_map]; omega, fun ds l3 dp dsr hl3 => ⟨l3, rfl, ⟨_, SqL.of upd_same⟩, fun g2 hg2 => ?_⟩⟩
          have dl : ds.length ≤ 50 := by
            have := dp.length_eq
            rw [List.length_map] at this
            omega
          have s8 : Same H7 (L2.upd H7 l3 (.lst (ds.map V.str))) := Same.upd hl3
          have x8 : L2.upd H7 l3 (.lst (ds.map V.str)) l3 = some (.lst (ds.map V.str)) := upd_same
          generalize L2.upd H7 l3 (.lst (ds.map V.str)) = H8 at s8 x8 hg2 ⊢
          refine lc_list (K := K) (a := l3) (xs := ds.map V.str) (fun j H9 => ∃ ws : List V, H9 g2 = some (.lst ws) ∧ Paired (ItAt H9) ws ((ds.take j).map (denIt its)) ∧ Same H8 H9)
            ⟨[], upd_same, .nil, Same.upd hg2⟩ (fun j H9 _ ⟨_, _, _, s⟩ => SqL.of (s _ _ x8)) ?_ ?_
          · rintro j x H9 hj ⟨ws, hw, hP9, s9⟩
            rw [List.getElem?_map] at hj
            cases hy : ds[j]? with
            | none => rw [hy] at hj; cases hj
            | some n =>
              rw [hy] at hj
              have ex : V.str n = x := Option.some.inj hj
              subst ex
              have sh9 := L2.Same.trans s7 (L2.Same.trans s8 s9)
              obtain ⟨dv, m1, m2⟩ := den_look (dp.subset (List.mem_of_getElem? hy))
              have et : It.den n dv = denIt its n := by unfold denIt; rw [m1]
              refine ⟨rfl, yesT ⟨_, rfl, _, rfl, p, C, dx, _, _, rfl, sh9 _ _ hp, S.cls.cl, S.cls.nD, fld_d, _, rfl, dd, _, rfl, dgetS (sh9 _ _ hdd) m2, few, fun q hq => ?_⟩⟩
              have wl : ws.length ≤ 50 := by
                have := Paired.len hP9
                rw [List.length_map, List.length_take] at this
                omega
              refine ⟨ws, Same.upd hq _ _ hw, line4' (by omega), ws ++ [.ref q], upd_same, ?_, samePut (Same.new s9 hq) hg2⟩
              rw [take_more hy, List.map_append]
              have := snocIt (t := It.den n dv) hw hq hP9
              rw [et] at this
              rw [show [V.str (Str.ofString "denial"), V.str n, dv] = (denIt its n).vs by rw [← et]; rfl]
              exact this
          · rintro H9 ⟨ws, hw, hP9, s9⟩
            rw [List.length_map, List.take_length] at hP9
            have s79 := L2.Same.trans s8 s9
            have wl : ws.length ≤ 50 := by
              have := Paired.len hP9
              rw [List.length_map] at this
              omega
            refine ⟨d, g2, xs ++ zs, ws, rfl, rfl, s79 _ _ d7, hw, line4 (by rw [List.length_append]; omega), ?_⟩
            have tu9 : Tu H9 (L2.upd H9 d (.lst (xs ++ zs ++ ws))) := Tu.set (s79 _ _ d7) (by intro xs z; cases z)
            refine ⟨_, rfl, k d _ ys us ds _ dn upd_same ⟨yp, ysr, up, usr, dp, dsr⟩ ?_ (samePut (L2.Same.trans s7 s79) dn)⟩
            exact Paired.append (Paired.mapP P7 fun _ _ r => (r.tu (Tu.same s79)).tu tu9) (Paired.mapP hP9 fun _ _ r => r.tu tu9)
end
end K21

set_option Elab.async false
set_option linter.all false
set_option maxRecDepth 100000
set_option maxHeartbeats 4000000
namespace K21
open PySem PySem.Spec PyProof.Rows L2
inductive Ans where
  | tb (xs : List Str)
  | tn
  | rf (q : Prob)
def AnsAt (H : Hp) (v : V) : Ans → Prop
  | .tb xs => ∃ a t, v = .ref a ∧ H a = some (.tup [.str "told", .ref t]) ∧ H t = some (.tup (xs.map V.str))
  | .tn => ∃ a, v = .ref a ∧ H a = some (.tup [.str "told", .non])
  | .rf q => ∃ a t, v = .ref a ∧ H a = some (.tup [.str "refused", .ref t]) ∧ H t = some (.tup q.vs)
/-- check_body, check_denial: what is told -/
def toldB (c : Str → Option Nat) (ls : List Lit) : Ans := match bodyProb c [] ls with
  | (none, xs) => .tb xs
  | (some q, _) => .rf q
def toldD (c : Str → Option Nat) (dens : List Str) (n : Str) (ls : List Lit) : Ans := if n ∈ dens then .rf (.exd n) else match bodyProb c [] ls with
  | (none, _) => .tn
  | (some q, _) => .rf q
def fnm (f : Bool) : Str := if f then "body" else "denial"
def spTold (C : Addr) (rels : List (Str × Nat)) (rus : List Rul) (dens : List Str) : Sp := fun vs H Q _ => ∃ (f : Bool) (p : Addr) (n : Str) (bv : V) (ls : List Lit), vs = [.str (fnm f), .ref p, .str n, bv] ∧ StOk C H p rels rus dens ∧ BodyAt H bv ls ∧
  ∀ v H', AnsAt H' v (if f then toldB (cols rels rus) ls else toldD (cols rels rus) dens n ls) → Same H H' → Q v H'
/-- what the error's class must have -/
structure ErrC (K : PySem.W.Frag) (mg : Str → Option Value) (R RE : Addr) : Prop where
  xf : XfC K R
  gRE : mg "RuleError" = some (.ref RE)
  exm : PySem.W.exmOne K (.ref R) (.ref RE) = some true
  kR : PySem.W.kitOne K (.ref R) (.ref R) = some true
  kV : PySem.W.kitOne K (.ref R) (.type "ValueError") = some true
  gV : mg "ValueError" = none
/-- the except clause's suite: the error is at a, its dict at dd -/
def tSuite (a dd : Addr) : TS := fun D σ H => σ[4]? = some (some (.ref a)) ∧ ∃ fs v, H dd = some (.xd fs) ∧ List.lookup ("problem" : Str) fs = some v ∧ ∀ q, H q = none → D.rt (.ref q) (L2.upd H q (.tup [.str "refused", v]))
abbrev nTold : List Str := ["_law_form", "_law_state", "_law_name", "_law_body_here", "e"]
section
variable {P : Program} {w : World} {K : PySem.W.Frag} {mg : Str → Option Value} {base : Heap} {A : Nm → Addr} {D : Nm → FuncData} {C R RE : Addr} {rels : List (Str × Nat)} {rus : List Rul} {dens : List Str}
theorem scTold : FnScope nTold ["_law_form", "_law_state", "_law_name", "_law_body_here"] (defScope sTold) := ⟨rfl, rfl, rfl, by decide +kernel, rfl, by decide +kernel, by decide +kernel⟩
def suiteOf : Stmt → List Stmt
  | .Try _ (.ExceptHandler _ _ b _ :: _) _ _ _ => b
  | _ => []
theorem suite_ok {f : Addr} {cdv : Value} {Ar : Around} {outer : List Env} {s : Shared} {H0 : Hp} {E : XK} (T : Txt P K mg A D) (TR : RefTxt P K mg R) (Er : ErrC K mg R RE) (a : Addr) (oe : Obj) (cls : Value) (d : Option Addr) (pn : List (Addr × Obj)) (hz : Zc cls d oe) (hf : ∃ vs, oe.data = .fields vs) :
    PSs ((cxOf CX0 P w K mg base nTold "_law_told" (defScope sTold) f cdv Ar outer s H0 E).nox.suite a ((a, oe) :: pn)) (suiteOf ((defBody sTold).getD 0 (.Pass ⟨0, 0, 0, 0⟩))) (fun D σ H => ∃ dd, cls = .ref R ∧ d = some dd ∧ tSuite a dd D σ H) := by
  refine ⟨fun pins s σ H D I h => ?_⟩
  obtain ⟨dd, rfl, rfl, h4, fs, v, hdd, hl, k⟩ := h
  refine ((pss_cons (ps_if (PW.pt (pw_or (pt_not (pt_val (pe_callB (r := rIsED K R a dd) (call_isED hz hf) (by rfl) T.isi (by decide +kernel) (pa_cons (pv 4) (pa_cons (pe_glob (v := .ref R) (by rfl) TR.gC rfl) pa_nil))))) (pw_or1 (pt_not (pt_val (pe_callB (r := rIsED K R a dd) (call_isED hz hf) (by rfl) T.isi (by decide +kernel) (pa_cons (pv 4) (pa_cons (pe_bltn (v := .ty "ValueError") (by rfl) Er.gV (by decide +kernel) rfl) pa_nil)))))))) (pss_one (ps_ret (pe_tup (pa_cons pe_str (pa_cons pe_non pa_nil))))) pss_nil)
      (pss_one (ps_ret (pe_tup (pa_cons pe_str (pa_cons (pe_xf Er.xf TR.noN hz hf (pv 4)) pa_nil))))))).run pins s σ H D I ?_
  refine ⟨_, h4, ⟨fs, hdd⟩, .ref R, .ref R, rfl, fun u r => r, Er.kR, _, rfl, iteF ?_⟩
  refine ⟨_, h4, ⟨fs, hdd⟩, .ty "ValueError", .type "ValueError", rfl, fun u r => r, Er.kV, _, rfl, iteF ?_⟩
  exact ⟨_, h4, rfl, rfl, dd, fs, v, rfl, hdd, hl, few, fun q hq => k q hq⟩
theorem ok_told (T : Txt P K mg A D) (S : StC K mg C) (TR : RefTxt P K mg R) (Er : ErrC K mg R RE) : FnOk P w K mg base CX0 6 (A .told) (D .told) ["_law_form", "_law_state", "_law_name", "_law_body_here"] (spTold C rels rus dens) := by
  have GB : FnOk P w K mg base (L2.CX P w) 4 _ _ _ (spBody C R rels rus dens) := ok_body T S TR
  have GD : FnOk P w K mg base (L2.CX P w) 5 _ _ _ (spDenial C R rels rus dens) := ok_denial T S TR
  refine T.told.F.ok scTold (fun vs H Q E h => ?_) (fun cdv Ar outer s H vs Q E hr h => ?_)
  · obtain ⟨fm, p, n, bv, ls, rfl, _⟩ := h
    rfl
  · obtain ⟨fm, p, n, bv, ls, rfl, O, hb, k⟩ := h
    have hr4 := hr.mono (j := 4) (by decide)
    refine ⟨_, pss_one (ps_try_as (i := 4) (ts := fun a cls d D σ H => ∃ dd, cls = .ref R ∧ d = some dd ∧ tSuite a dd D σ H) (Wout := fun _ _ _ _ => False) rfl rfl scTold.nd rfl rfl ⟨rfl, by decide, Or.inl Er.gRE⟩ takes0
      (fun W pn xe tk _ => (pss_cons (ps_if (pt_cmpR op_eq (pv 0) pe_str (nomark _)) (pss_one (ps_ret (pe_tup (pa_cons pe_str (pa_cons (pe_callS GB hr4 (by rfl) T.body.g T.body.kp T.body.b (fun σ => passAt tk σ) (pa_cons (pv 1) (pa_cons (pv 3) pa_nil))) pa_nil))))) pss_nil)
      (pss_one (ps_ret (pe_tup (pa_cons pe_str (pa_cons (pe_callS GD hr (by rfl) T.denial.g T.denial.kp T.denial.b (fun σ => passAt tk σ) (pa_cons (pv 1) (pa_cons (pv 2) (pa_cons (pv 3) pa_nil)))) pa_nil)))))))
      (fun a oe cls d pn hz hf => suite_ok T TR Er a oe cls d pn hz hf)), ?_⟩
    have err : ∀ (D' : Ends) (σ : L2.St) (q : Prob), (∀ v H', AnsAt H' v (.rf q) → Same H H' → D'.rt v H') → σ = L2.start nTold [.str (fnm fm), .ref p, .str n, bv] →
        ErrAt R H (WE (wAs K (.ref RE) 4 (fun a cls d D σ H => ∃ dd, cls = .ref R ∧ d = some dd ∧ tSuite a dd D σ H) (fun _ _ _ _ => False) D') σ) q := by
      rintro D' σ q kq rfl d a H' hd ha s1
      refine ⟨true, Er.exm, fun _ e he => ?_, fun z => Bool.noConfusion z⟩
      refine ⟨d, rfl, rfl, rfl, _, .ref a, hd, rfl, fun g hg => ?_⟩
      exact kq _ _ ⟨g, a, rfl, upd_same, Same.upd hg _ _ ha⟩ (Same.new s1 hg)
    cases fm with
    | true =>
      refine ⟨_, rfl, rfl, _, rfl, ifT (by decide +kernel) ?_⟩
      refine ⟨_, rfl, _, rfl, p, bv, ls, rfl, O, hb, ?_⟩
      have k' : ∀ v H', AnsAt H' v (match bodyProb (cols rels rus) [] ls with | (none, xs) => .tb xs | (some q, _) => .rf q) → Same H H' → Q v H' := k
      cases hp : bodyProb (cols rels rus) [] ls with
      | mk o xs =>
        rw [hp] at k'
        cases o with
        | none =>
          refine fun a H' ha s1 => ⟨few, fun g hg => ?_⟩
          exact k' _ _ ⟨g, a, rfl, upd_same, Same.upd hg _ _ ha⟩ (Same.new s1 hg)
        | some q => exact err _ _ q k' rfl
    | false =>
      refine ⟨_, rfl, rfl, _, rfl, ifF (by decide +kernel) ?_⟩
      refine ⟨_, rfl, _, rfl, _, rfl, p, n, bv, ls, rfl, O, hb, ?_⟩
      have k' : ∀ v H', AnsAt H' v (if n ∈ dens then .rf (.exd n) else match bodyProb (cols rels rus) [] ls with | (none, _) => .tn | (some q, _) => .rf q) → Same H H' → Q v H' := k
      by_cases hn : n ∈ dens
      · rw [if_pos hn] at k' ⊢
        exact err _ _ _ k' rfl
      · rw [if_neg hn] at k' ⊢
        cases hp : bodyProb (cols rels rus) [] ls with
        | mk o xs =>
          rw [hp] at k'
          cases o with
          | none =>
            refine fun H' s1 => ⟨few, fun g hg => ?_⟩
            exact k' _ _ ⟨g, rfl, upd_same⟩ (Same.new s1 hg)
          | some q => exact err _ _ q k' rfl
end
end K21

set_option Elab.async false
set_option linter.all false
set_option maxRecDepth 100000
set_option maxHeartbeats 4000000
namespace K21
open PySem PySem.Spec PyProof.Rows L2
/-! ### data that stays: tuples of tuples -/
def FixT (H : Hp) : Nat → V → Prop
  | 0, v => isF v = true
  | n + 1, v => isF v = true ∨ ∃ (a : Addr) (xs : List V), v = .ref a ∧ H a = some (.tup xs) ∧ (∀ x ∈ xs, FixT H n x) ∧ xs.length ≤ 100
theorem FixT.up {H : Hp} : ∀ {n : Nat} {v : V}, FixT H n v → FixT H (n + 1) v
  | 0, _, h => .inl h
  | n + 1, v, h => by
    rcases h with h | ⟨a, xs, h1, h2, h3, h4⟩
    · exact .inl h
    · exact .inr ⟨a, xs, h1, h2, fun x hx => FixT.up (h3 x hx), h4⟩
theorem FixT.tu {H H' : Hp} (e : Tu H H') : ∀ {n : Nat} {v : V}, FixT H n v → FixT H' n v
  | 0, _, h => h
  | n + 1, v, h => by
    rcases h with h | ⟨a, xs, h1, h2, h3, h4⟩
    · exact .inl h
    · exact .inr ⟨a, xs, h1, e _ _ h2, fun x hx => FixT.tu e (h3 x hx), h4⟩
theorem paired_self {α : Type} {G : α → α → Prop} : ∀ {l : List α}, (∀ x ∈ l, G x x) → Paired G l l
  | [], _ => .nil
  | x :: l, h => .cons (h x List.mem_cons_self) (paired_self fun y hy => h y (List.mem_cons_of_mem _ hy))
theorem FixT.same {H : Hp} : ∀ {n : Nat} {v : V}, FixT H n v → SameD H n v v
  | 0, _, h => ⟨rfl, h⟩
  | n + 1, v, h => by
    rcases h with h | ⟨a, xs, h1, h2, h3, h4⟩
    · exact .inl ⟨rfl, h⟩
    · exact .inr ⟨a, a, xs, xs, h1, h1, .inl ⟨h2, h2⟩, paired_self fun x hx => FixT.same (h3 x hx), by omega⟩
theorem fixS {H : Hp} {n : Nat} {x : Str} : FixT H n (.str x) := by cases n <;> first | rfl | exact .inl rfl
theorem fixI {H : Hp} {n : Nat} {i : Int} : FixT H n (.int i) := by cases n <;> first | rfl | exact .inl rfl
theorem sameS {H : Hp} {n : Nat} {x : Str} : SameD H n (.str x) (.str x) := FixT.same fixS
theorem sameN {H : Hp} {n : Nat} : SameD H n .non .non := by cases n <;> first | exact ⟨rfl, rfl⟩ | exact .inl ⟨rfl, rfl⟩
/-- a tuple -/
theorem fixTup {H : Hp} {n : Nat} {a : Addr} {xs : List V} (h : H a = some (.tup xs)) (hx : ∀ x ∈ xs, FixT H n x) (hl : xs.length ≤ 100) : FixT H (n + 1) (.ref a) := .inr ⟨a, xs, rfl, h, hx, hl⟩
theorem sameTup {H : Hp} {n : Nat} {a b : Addr} {xs ys : List V} (h1 : H a = some (.tup xs)) (h2 : H b = some (.tup ys)) (h : Paired (SameD H n) xs ys) (hl : xs.length ≤ 100000) : SameD H (n + 1) (.ref a) (.ref b) := .inr ⟨a, b, xs, ys, rfl, rfl, .inl ⟨h1, h2⟩, h, hl⟩
theorem sameLst {H : Hp} {n : Nat} {a b : Addr} {xs ys : List V} (h1 : H a = some (.lst xs)) (h2 : H b = some (.lst ys)) (h : Paired (SameD H n) xs ys) (hl : xs.length ≤ 100000) : SameD H (n + 1) (.ref a) (.ref b) := .inr ⟨a, b, xs, ys, rfl, rfl, .inr ⟨h1, h2⟩, h, hl⟩
/-! ### the law's own world -/
def ruls : List Rul := [("n0", "u", 1), ("d", "v", 2), ("q", "w", 1)]
def rels (w : Nat) : List (Str × Nat) := [("p", 2), ("q", 1), ("r", w)]
def wsOf (n w : Nat) : List (Str × Nat) := (ruls.take n).map (fun r => (r.2.1, r.2.2)) ++ rels w
theorem cases3 {n : Nat} (h : n ≤ 3) : n = 0 ∨ n = 1 ∨ n = 2 ∨ n = 3 := by omega
theorem ws_merge {n w : Nat} (h : n ≤ 3) : mergeK (foldRu (ruls.take n)) (relK (rels w)) = relK (wsOf n w) := by
  rcases cases3 h with rfl | rfl | rfl | rfl <;> rfl
theorem cols_ws {n w : Nat} (h : n ≤ 3) (r : Str) : wcol (wsOf n w) r = cols (rels w) (ruls.take n) r := by
  by_cases h1 : r = "p"
  · subst h1; rcases cases3 h with rfl | rfl | rfl | rfl <;> rfl
  by_cases h2 : r = "q"
  · subst h2; rcases cases3 h with rfl | rfl | rfl | rfl <;> rfl
  by_cases h3 : r = "r"
  · subst h3; rcases cases3 h with rfl | rfl | rfl | rfl <;> rfl
  by_cases h4 : r = "u"
  · subst h4; rcases cases3 h with rfl | rfl | rfl | rfl <;> rfl
  by_cases h5 : r = "v"
  · subst h5; rcases cases3 h with rfl | rfl | rfl | rfl <;> rfl
  by_cases h6 : r = "w"
  · subst h6; rcases cases3 h with rfl | rfl | rfl | rfl <;> rfl
  have b1 : (r == ("p" : Str)) = false := by simpa using h1
  have b2 : (r == ("q" : Str)) = false := by simpa using h2
  have b3 : (r == ("r" : Str)) = false := by simpa using h3
  have b4 : (r == ("u" : Str)) = false := by simpa using h4
  have b5 : (r == ("v" : Str)) = false := by simpa using h5
  have b6 : (r == ("w" : Str)) = false := by simpa using h6
  rcases cases3 h with rfl | rfl | rfl | rfl <;> simp [wcol, wsOf, ruls, rels, cols, List.lookup, b1, b2, b3, b4, b5, b6, Ne.symm h4, Ne.symm h5, Ne.symm h6]
theorem ws_wd {H : Hp} {a : Addr} {n w : Nat} (hn : n ≤ 3) (h1 : 1 ≤ w) (h4 : w ≤ 4) (h : H a = some (.dK (relK (wsOf n w)))) : WdAt H a (wsOf n w) := by
  refine ⟨h, by unfold wsOf rels; simp, ?_, ?_⟩
  · unfold wsOf rels
    rw [List.length_append, List.length_map, List.length_take]
    show min n 3 + 3 ≤ 20
    omega
  · rcases cases3 hn with rfl | rfl | rfl | rfl <;> (intro x hx; simp [wsOf, ruls, rels] at hx; rcases hx with rfl | rfl | rfl | rfl | rfl | rfl <;> first | omega | (constructor <;> decide) | (constructor <;> omega))
/-- the rules of a world -/
def RfAt (H : Hp) (r : Str × Str × V × V) (k : Rul) : Prop := r.1 = k.1 ∧ r.2.1 = k.2.1 ∧ (∃ (ta : Addr) (tvs : List V), r.2.2.1 = .ref ta ∧ H ta = some (.tup tvs) ∧ tvs.length = k.2.2) ∧ FixT H 4 r.2.2.1 ∧ FixT H 4 r.2.2.2
theorem RfAt.tu {H H' : Hp} (e : Tu H H') {r : Str × Str × V × V} {k : Rul} (h : RfAt H r k) : RfAt H' r k := by
  obtain ⟨h1, h2, ⟨ta, tvs, h3, h4, h5⟩, h6, h7⟩ := h
  exact ⟨h1, h2, ⟨ta, tvs, h3, e _ _ h4, h5⟩, h6.tu e, h7.tu e⟩
def itsOf (w : Nat) (rvs : List (Str × Str × V × V)) (dv : V) : List It := (rels w).map (fun x => It.rel x.1 x.2) ++ rvs.map (fun r => It.rul r.1 r.2.1 r.2.2.1 r.2.2.2) ++ [It.den "d" dv]
theorem relOf_rul : ∀ rvs : List (Str × Str × V × V), relOf (rvs.map fun r => It.rul r.1 r.2.1 r.2.2.1 r.2.2.2) = []
  | [] => rfl
  | _ :: l => relOf_rul l
theorem rulOf_rul : ∀ rvs : List (Str × Str × V × V), rulOf (rvs.map fun r => It.rul r.1 r.2.1 r.2.2.1 r.2.2.2) = rvs
  | [] => rfl
  | r :: l => by show r :: rulOf _ = _; rw [rulOf_rul l]
theorem denOf_rul : ∀ rvs : List (Str × Str × V × V), denOf (rvs.map fun r => It.rul r.1 r.2.1 r.2.2.1 r.2.2.2) = []
  | [] => rfl
  | _ :: l => denOf_rul l
theorem its_rel (w : Nat) (rvs : List (Str × Str × V × V)) (dv : V) : relOf (itsOf w rvs dv) = rels w := by
  unfold itsOf
  rw [relOf_app, relOf_app, relOf_rul]
  rfl
theorem its_rul (w : Nat) (rvs : List (Str × Str × V × V)) (dv : V) : rulOf (itsOf w rvs dv) = rvs := by
  unfold itsOf
  rw [rulOf_app, rulOf_app, rulOf_rul]
  show ([] ++ rvs) ++ [] = rvs
  rw [List.append_nil, List.nil_append]
theorem its_den (w : Nat) (rvs : List (Str × Str × V × V)) (dv : V) : denOf (itsOf w rvs dv) = [(("d" : Str), dv)] := by
  unfold itsOf
  rw [denOf_app, denOf_app, denOf_rul]
  rfl
theorem rf_names {H : Hp} : ∀ {rvs : List (Str × Str × V × V)} {rus : List Rul}, Paired (RfAt H) rvs rus → rvs.map (·.1) = rus.map (·.1)
  | _, _, .nil => rfl
  | _, _, .cons q t => by rw [List.map_cons, List.map_cons, q.1, rf_names t]
theorem ruls_nd (n : Nat) : ((ruls.take n).map (·.1)).Nodup := by
  have h : (ruls.map (·.1)).Nodup := by decide +kernel
  rw [List.map_take]
  exact (List.take_sublist n _).nodup h
theorem its_once {H : Hp} {n w : Nat} {rvs : List (Str × Str × V × V)} {dv : V} (h : Paired (RfAt H) rvs (ruls.take n)) : Once (itsOf w rvs dv) := by
  refine ⟨?_, ?_, ?_⟩
  · rw [its_rel]
    show ([("p" : Str), "q", "r"]).Nodup
    decide +kernel
  · rw [its_rul, rf_names h]
    exact ruls_nd n
  · rw [its_den]
    show ([("d" : Str)]).Nodup
    decide +kernel
theorem its_len {H : Hp} {n w : Nat} {rvs : List (Str × Str × V × V)} {dv : V} (h : Paired (RfAt H) rvs (ruls.take n)) : (itsOf w rvs dv).length ≤ 50 := by
  have e := Paired.len h
  rw [List.length_take] at e
  unfold itsOf
  rw [List.length_append, List.length_append, List.length_map, List.length_map]
  show 3 + rvs.length + 1 ≤ 50
  have : ruls.length = 3 := rfl
  omega
theorem rv_rf {H : Hp} : ∀ {ruk : List (Key × V)} {rvs : List (Str × Str × V × V)} {rus : List Rul}, Paired (RvAt H) ruk rvs → Paired (RfAt H) rvs rus → Paired (RuAt H) ruk rus
  | _, _, _, .nil, .nil => .nil
  | _, _, _, .cons (b := r) q t, .cons (b := k) q' t' => by
    refine .cons ?_ (rv_rf t t')
    obtain ⟨h1, a, h2, h3⟩ := q
    obtain ⟨g1, g2, ⟨ta, tvs, g3, g4, g5⟩, _, _⟩ := q'
    exact ⟨by rw [h1, g1], a, ta, r.2.2.2, tvs, h2, by rw [h3, g2, g3], g4, g5⟩
theorem stok_of {C : Addr} {H : Hp} {p : Addr} {n w : Nat} {rvs : List (Str × Str × V × V)} {dv : V} (F : FlAt C H p (itsOf w rvs dv)) (h : Paired (RfAt H) rvs (ruls.take n)) : StOk C H p (rels w) (ruls.take n) ["d"] := by
  obtain ⟨dx, dr, df, du, dd, ruk, ns, h1, h2, h3, h4, h5, h6, h7⟩ := F
  rw [its_rel] at h2
  rw [its_rul] at h4
  rw [its_den] at h5
  refine ⟨⟨dx, dr, df, du, dd, ruk, _, h1, h2, h3, rv_rf h4 h, h5, rfl⟩, ?_, ?_, ruls_nd n⟩
  · rw [List.length_take]
    show min n 3 ≤ 50
    omega
  · intro a b ha hb e
    have z : ∀ a ∈ ruls, ∀ b ∈ ruls, a.2.1 = b.2.1 → a = b := by decide +kernel
    exact z a (List.mem_of_mem_take ha) b (List.mem_of_mem_take hb) e
/-! ### two listings are the same -/
theorem fix_rul {H : Hp} {rvs : List (Str × Str × V × V)} {rus : List Rul} : Paired (RfAt H) rvs rus → ∀ r ∈ rvs, FixT H 4 r.2.2.1 ∧ FixT H 4 r.2.2.2
  | .nil, _, h => by simp at h
  | .cons q t, r, h => by
    rcases List.mem_cons.mp h with rfl | h
    · exact ⟨q.2.2.2.1, q.2.2.2.2⟩
    · exact fix_rul t r h
theorem lookup_in {β : Type} : ∀ {l : List (Str × β)} {n : Str} {v : β}, l.lookup n = some v → (n, v) ∈ l
  | [], _, _, h => by cases h
  | (y, u) :: l, n, v, h => by
    by_cases e : n = y
    · subst e
      simp [List.lookup] at h
      rw [h]
      exact List.mem_cons_self
    · have e' : (n == y) = false := by simpa using e
      simp [List.lookup, e'] at h
      exact List.mem_cons_of_mem _ (lookup_in h)
theorem out_fix {H : Hp} {its : List It} {ys us ds : List Str} (hu : ∀ r ∈ rulOf its, FixT H 4 r.2.2.1 ∧ FixT H 4 r.2.2.2) (hd : ∀ d ∈ denOf its, FixT H 4 d.2) : ∀ t ∈ outOf its ys us ds, ∀ x ∈ t.vs, FixT H 4 x := by
  intro t ht x hx
  unfold outOf at ht
  rcases List.mem_append.mp ht with ht | ht
  · rcases List.mem_append.mp ht with ht | ht
    · obtain ⟨n, _, rfl⟩ := List.mem_map.mp ht
      simp [relIt, It.vs] at hx
      rcases hx with rfl | rfl | rfl <;> first | exact fixS | exact fixI
    · obtain ⟨n, _, rfl⟩ := List.mem_map.mp ht
      unfold rulIt at hx
      cases e : (rulOf its).lookup n with
      | none =>
        rw [e] at hx
        simp [It.vs] at hx
        rcases hx with rfl | rfl | rfl <;> first | exact fixS | exact fixI
      | some z =>
        obtain ⟨r, hv, bv⟩ := z
        rw [e] at hx
        obtain ⟨f1, f2⟩ := hu _ (lookup_in e)
        simp [It.vs] at hx
        rcases hx with rfl | rfl | rfl | rfl | rfl <;> first | exact fixS | exact f1 | exact f2
  · obtain ⟨n, _, rfl⟩ := List.mem_map.mp ht
    unfold denIt at hx
    cases e : (denOf its).lookup n with
    | none =>
      rw [e] at hx
      simp [It.vs] at hx
      rcases hx with rfl | rfl | rfl <;> first | exact fixS | exact fixI
    | some z =>
      rw [e] at hx
      have f := hd _ (lookup_in e)
      simp [It.vs] at hx
      rcases hx with rfl | rfl | rfl <;> first | exact fixS | exact f
theorem same_items {H : Hp} : ∀ {xs ys : List V} {ts : List It}, Paired (ItAt H) xs ts → Paired (ItAt H) ys ts → (∀ t ∈ ts, ∀ x ∈ t.vs, FixT H 4 x) → Paired (SameD H 5) xs ys
  | _, _, _, .nil, .nil, _ => .nil
  | _, _, _, .cons (b := t) q r, .cons q' r', h => by
    refine .cons ?_ (same_items r r' fun t ht => h t (List.mem_cons_of_mem _ ht))
    obtain ⟨a, rfl, ha⟩ := q
    obtain ⟨b, rfl, hb⟩ := q'
    refine sameTup ha hb (paired_self fun x hx => FixT.same (h t List.mem_cons_self x hx)) ?_
    cases t <;> (show _ ≤ 100000; simp [It.vs])
end K21

set_option Elab.async false
set_option linter.all false
set_option maxRecDepth 100000
set_option maxHeartbeats 4000000
namespace K21
open PySem PySem.Spec PyProof.Rows L2
def spLaw (K : PySem.W.Frag) : Sp := fun vs H Q _ => ∃ (a : Addr) (ns : List Int), vs = [.ref a] ∧ SqL K H a (ns.map V.int) ∧ ns.length ≤ 63 ∧ ∀ H', Q (.bl true) H'
abbrev nLaw : List Str := ["_law_script", "_law_state", "_law_world", "_law_x", "_law_choices", "_law_k", "_law_name", "_law_items", "_law_actual", "_law_widths_here", "_law_body_here", "_law_problem", "_law_bound", "_law_due"]
/-- a promise for each of a kind -/
theorem fnAny {P : Program} {w : World} {K : PySem.W.Frag} {mg : Str → Option Value} {base : Heap} {CX : CXT} {k : Nat} {f : Addr} {fd : FuncData} {ps : List Str} {ι : Type} {sp : ι → Sp} (h : ∀ i, FnOk P w K mg base CX k f fd ps (sp i)) : FnOk P w K mg base CX k f fd ps (fun vs H Q E => ∃ i, sp i vs H Q E) :=
  ⟨fun vs H Q E ⟨i, q⟩ => (h i).len vs H Q E q, fun A outer s H args us vs Q E hr he hb hv ⟨i, q⟩ => (h i).run A outer s H args us vs Q E hr he hb hv q⟩
theorem Paired.take {α β : Type} {G : α → β → Prop} : ∀ {a : List α} {b : List β} (n : Nat), Paired G a b → Paired G (a.take n) (b.take n)
  | _, _, 0, _ => .nil
  | _, _, _ + 1, .nil => .nil
  | _, _, n + 1, .cons q t => .cons q (Paired.take n t)
/-- the four parts of the state are no 4-list of numbers -/
theorem st_ne {H : Hp} {st c b : Addr} {o : HO} (s : StAt H st c) (h : H b = some o) (ho : ∀ x, o ≠ .lst x) : b ≠ st := by
  obtain ⟨cells, i, big, r, hs, _⟩ := s
  exact ne_of h hs fun z => ho _ z
theorem st_nil {H : Hp} {st c b : Addr} (s : StAt H st c) (h : H b = some (.lst [])) : b ≠ st := by
  obtain ⟨cells, i, big, r, hs, _⟩ := s
  exact ne_of h hs fun z => by cases z
theorem RvAt.all {H H' : Hp} (e : Tu H H') {ruk : List (Key × V)} {rvs : List (Str × Str × V × V)} (h : Paired (RvAt H) ruk rvs) : Paired (RvAt H') ruk rvs := Paired.mapP h fun _ _ q => q.tu e
theorem RfAt.all {H H' : Hp} (e : Tu H H') {rvs : List (Str × Str × V × V)} {rus : List Rul} (h : Paired (RfAt H) rvs rus) : Paired (RfAt H') rvs rus := Paired.mapP h fun _ _ q => q.tu e
theorem ItAt.all {H H' : Hp} (e : Tu H H') {vs : List V} {its : List It} (h : Paired (ItAt H) vs its) : Paired (ItAt H') vs its := Paired.mapP h fun _ _ q => q.tu e
theorem FlAt.fr {C : Addr} {H H' : Hp} {p st c : Addr} {its : List It} (F : FlAt C H p its) (s : StAt H st c) (e : Fr st H H') : FlAt C H' p its := by
  obtain ⟨dx, dr, df, du, dd, ruk, ns, h1, h2, h3, h4, h5, ⟨fk, h6, h7, h8⟩, h9⟩ := F
  refine ⟨dx, dr, df, du, dd, ruk, ns, e _ _ h1 (st_ne s h1 (by intro x z; cases z)), e _ _ h2 (st_ne s h2 (by intro x z; cases z)), e _ _ h3 (st_ne s h3 (by intro x z; cases z)), RvAt.all (e.tu s) h4, e _ _ h5 (st_ne s h5 (by intro x z; cases z)), ⟨fk, e _ _ h6 (st_ne s h6 (by intro x z; cases z)), h7, fun kv hkv => ?_⟩, h9⟩
  obtain ⟨l, q1, q2⟩ := h8 kv hkv
  exact ⟨l, q1, e _ _ q2 (st_nil s q2)⟩
theorem FlAt.same {C : Addr} {H H' : Hp} {p : Addr} {its : List It} (F : FlAt C H p its) (e : Same H H') : FlAt C H' p its := by
  obtain ⟨dx, dr, df, du, dd, ruk, ns, h1, h2, h3, h4, h5, ⟨fk, h6, h7, h8⟩, h9⟩ := F
  refine ⟨dx, dr, df, du, dd, ruk, ns, e _ _ h1, e _ _ h2, e _ _ h3, RvAt.all (Tu.same e) h4, e _ _ h5, ⟨fk, e _ _ h6, h7, fun kv hkv => ?_⟩, h9⟩
  obtain ⟨l, q1, q2⟩ := h8 kv hkv
  exact ⟨l, q1, e _ _ q2⟩
/-- the world, its rules chosen -/
structure W1 (H : Hp) (st c wo rl ru : Addr) (w n : Nat) (ruk : List (Key × V)) (rvs : List (Str × Str × V × V)) : Prop where
  S : StAt H st c
  wo_ : H wo = some (.dK [(Sum.inr ("relations" : Str), .ref rl), (Sum.inr ("rules" : Str), .ref ru)])
  rl_ : H rl = some (.dK (relK (rels w)))
  ru_ : H ru = some (.dK ruk)
  rv : Paired (RvAt H) ruk rvs
  rf : Paired (RfAt H) rvs (ruls.take n)
  w1 : 1 ≤ w
  w4 : w ≤ 4
  n3 : n ≤ 3
theorem W1.same {H H' : Hp} {st c wo rl ru : Addr} {w n : Nat} {ruk : List (Key × V)} {rvs : List (Str × Str × V × V)} (h : W1 H st c wo rl ru w n ruk rvs) (e : Same H H') : W1 H' st c wo rl ru w n ruk rvs :=
  ⟨h.S.same e, e _ _ h.wo_, e _ _ h.rl_, e _ _ h.ru_, RvAt.all (Tu.same e) h.rv, RfAt.all (Tu.same e) h.rf, h.w1, h.w4, h.n3⟩
/-- behind the setting up -/
structure W2 (C : Addr) (H : Hp) (st c p il wd : Addr) (w n : Nat) (rvs : List (Str × Str × V × V)) (dv : V) (ivs : List V) : Prop where
  S : StAt H st c
  F : FlAt C H p (itsOf w rvs dv)
  il_ : H il = some (.lst ivs)
  iln : il ≠ st
  it : Paired (ItAt H) ivs (itsOf w rvs dv)
  rf : Paired (RfAt H) rvs (ruls.take n)
  df : FixT H 4 dv
  wd_ : H wd = some (.dK (relK (wsOf n w)))
  w1 : 1 ≤ w
  w4 : w ≤ 4
  n3 : n ≤ 3
theorem W2.fr {C : Addr} {H H' : Hp} {st c p il wd : Addr} {w n : Nat} {rvs : List (Str × Str × V × V)} {dv : V} {ivs : List V} (h : W2 C H st c p il wd w n rvs dv ivs) (s : StAt H' st c) (e : Fr st H H') : W2 C H' st c p il wd w n rvs dv ivs :=
  ⟨s, h.F.fr h.S e, e _ _ h.il_ h.iln, h.iln, ItAt.all (e.tu h.S) h.it, RfAt.all (e.tu h.S) h.rf, h.df.tu (e.tu h.S), e _ _ h.wd_ (st_ne h.S h.wd_ (by intro x z; cases z)), h.w1, h.w4, h.n3⟩
theorem W2.same {C : Addr} {H H' : Hp} {st c p il wd : Addr} {w n : Nat} {rvs : List (Str × Str × V × V)} {dv : V} {ivs : List V} (h : W2 C H st c p il wd w n rvs dv ivs) (e : Same H H') : W2 C H' st c p il wd w n rvs dv ivs := h.fr (h.S.same e) (Fr.same e)
theorem W2.wd {C : Addr} {H : Hp} {st c p il wd : Addr} {w n : Nat} {rvs : List (Str × Str × V × V)} {dv : V} {ivs : List V} (h : W2 C H st c p il wd w n rvs dv ivs) : WdAt H wd (wsOf n w) := ws_wd h.n3 h.w1 h.w4 h.wd_
theorem W2.st {C : Addr} {H : Hp} {st c p il wd : Addr} {w n : Nat} {rvs : List (Str × Str × V × V)} {dv : V} {ivs : List V} (h : W2 C H st c p il wd w n rvs dv ivs) : StOk C H p (rels w) (ruls.take n) ["d"] := stok_of h.F h.rf
theorem W2.co {C : Addr} {H : Hp} {st c p il wd : Addr} {w n : Nat} {rvs : List (Str × Str × V × V)} {dv : V} {ivs : List V} (h : W2 C H st c p il wd w n rvs dv ivs) : cols (rels w) (ruls.take n) = wcol (wsOf n w) := funext fun r => (cols_ws h.n3 r).symm
/-- the same is told -/
theorem ans_same {H : Hp} {x y : V} : ∀ {A : Ans}, AnsAt H x A → AnsAt H y A → (∀ xs, A = .tb xs → xs.length ≤ 100000) → SameD H 2 x y
  | .tb xs, h, h', hl => by
    obtain ⟨a, t, rfl, h1, h2⟩ := h
    obtain ⟨b, u, rfl, g1, g2⟩ := h'
    refine sameTup h1 g1 (.cons sameS (.cons (sameTup h2 g2 (paired_self fun x hx => ?_) ?_) .nil)) (by show 2 ≤ 100000; omega)
    · obtain ⟨z, _, rfl⟩ := List.mem_map.mp hx
      exact sameS
    · rw [List.length_map]
      exact hl xs rfl
  | .tn, h, h', _ => by
    obtain ⟨a, rfl, h1⟩ := h
    obtain ⟨b, rfl, g1⟩ := h'
    exact sameTup h1 g1 (.cons sameS (.cons sameN .nil)) (by show 2 ≤ 100000; omega)
  | .rf q, h, h', _ => by
    obtain ⟨a, t, rfl, h1, h2⟩ := h
    obtain ⟨b, u, rfl, g1, g2⟩ := h'
    refine sameTup h1 g1 (.cons sameS (.cons (sameTup h2 g2 (paired_self fun x hx => ?_) ?_) .nil)) (by show 2 ≤ 100000; omega)
    · cases q <;> (simp [Prob.vs] at hx; rcases hx with rfl | rfl | rfl <;> first | exact sameS | (rename_i h; exact absurd h (by simp)))
    · cases q <;> (show _ ≤ 100000; simp [Prob.vs])
theorem AnsAt.same {H H' : Hp} (e : Same H H') {v : V} : ∀ {A : Ans}, AnsAt H v A → AnsAt H' v A
  | .tb xs, ⟨a, t, h0, h1, h2⟩ => ⟨a, t, h0, e _ _ h1, e _ _ h2⟩
  | .tn, ⟨a, h0, h1⟩ => ⟨a, h0, e _ _ h1⟩
  | .rf q, ⟨a, t, h0, h1, h2⟩ => ⟨a, t, h0, e _ _ h1, e _ _ h2⟩
theorem AnsAt.fr {H H' : Hp} {st c : Addr} (s : StAt H st c) (e : Fr st H H') {v : V} : ∀ {A : Ans}, AnsAt H v A → AnsAt H' v A
  | .tb xs, ⟨a, t, h0, h1, h2⟩ => ⟨a, t, h0, e.tu s _ _ h1, e.tu s _ _ h2⟩
  | .tn, ⟨a, h0, h1⟩ => ⟨a, h0, e.tu s _ _ h1⟩
  | .rf q, ⟨a, t, h0, h1, h2⟩ => ⟨a, t, h0, e.tu s _ _ h1, e.tu s _ _ h2⟩
theorem rels_at {w : Nat} : ∀ {j : Nat} {kv : Key × V}, (relK (rels w))[j]? = some kv → ∃ x : Str × Nat, (rels w)[j]? = some x ∧ kv.1 = Sum.inr x.1 ∧ valV (relK (rels w)) (Sum.inr x.1) = some (.int (x.2 : Nat))
  | 0, _, h => ⟨("p", 2), rfl, by cases h; rfl, by rfl⟩
  | 1, _, h => ⟨("q", 1), rfl, by cases h; rfl, by rfl⟩
  | 2, _, h => ⟨("r", w), rfl, by cases h; rfl, by rfl⟩
  | _ + 3, _, h => by cases h
theorem mem1 {P : V → Prop} {a : V} (h : P a) : ∀ x ∈ [a], P x := fun x hx => by rw [List.mem_singleton] at hx; rw [hx]; exact h
theorem mem2 {P : V → Prop} {a b : V} (h : P a) (g : P b) : ∀ x ∈ [a, b], P x := fun x hx => by
  rcases List.mem_cons.mp hx with rfl | hx
  · exact h
  · exact mem1 g x hx
theorem mem3 {P : V → Prop} {a b c : V} (h : P a) (g : P b) (k : P c) : ∀ x ∈ [a, b, c], P x := fun x hx => by
  rcases List.mem_cons.mp hx with rfl | hx
  · exact h
  · exact mem2 g k x hx
/-- a choice -/
def ChAt (H : Hp) (v : V) (r : Str × Str × V × V) : Prop := ∃ a : Addr, v = .ref a ∧ H a = some (.tup [.str r.2.1, r.2.2.1, r.2.2.2])
theorem snocIt {H6 : Hp} {d q : Addr} {zs : List V} {ts : List It} {t : It} (hz : H6 d = some (.lst zs)) (hq : H6 q = none) (hP : Paired (ItAt H6) zs ts) :
    Paired (ItAt (L2.upd (L2.upd H6 q (.tup t.vs)) d (.lst (zs ++ [.ref q])))) (zs ++ [.ref q]) (ts ++ [t]) := by
  have tu : Tu H6 (L2.upd (L2.upd H6 q (.tup t.vs)) d (.lst (zs ++ [.ref q]))) := (Tu.upd hq).trans (Tu.set (Same.upd hq _ _ hz) (by intro xs z; cases z))
  refine Paired.snoc (Paired.mapP hP fun _ _ r => r.tu tu) ⟨q, rfl, ?_⟩
  rw [upd_ne (ne_of_none hz hq).symm]
  exact upd_same
theorem lookup_nd {β : Type} : ∀ {l : List (Str × β)} {r : Str × β}, (l.map (·.1)).Nodup → r ∈ l → l.lookup r.1 = some r.2
  | [], _, _, h => by simp at h
  | (y, u) :: l, r, nd, h => by
    rw [List.map_cons, List.nodup_cons] at nd
    rcases List.mem_cons.mp h with rfl | h
    · simp [List.lookup]
    · have hm : r.1 ∈ l.map (·.1) := List.mem_map_of_mem h
      have ne : r.1 ≠ y := fun e => nd.1 (e ▸ hm)
      have e' : (r.1 == y) = false := by simpa using ne
      simp [List.lookup, e', lookup_nd nd.2 h]
/-- what was locked stands again -/
theorem same_unlock {H0 H1 : Hp} {d : Addr} {od : Obj} {u : HO} (hd : H0 d = some u) (e : Same (L2.upd H0 d (.frz od u)) H1) : Same H0 (L2.upd H1 d u) := fun b o h => by
  by_cases q : b = d
  · subst q
    rw [upd_same, ← hd, h]
  · rw [upd_ne q]
    exact e _ _ (by rw [upd_ne q]; exact h)
/-- told of a denial of another name -/
def toldE (c : Str → Option Nat) (ls : List Lit) : Ans := match bodyProb c [] ls with
  | (none, _) => .tn
  | (some q, _) => .rf q
theorem isF_col (o : Option Nat) : isF (colV o) = true := by cases o <;> rfl
theorem col_get (ws : List (Str × Nat)) (r : Str) : (valV (relK ws) (Sum.inr r)).getD .non = colV (wcol ws r) := by
  rw [valV_rel]
  cases wcol ws r <;> rfl
section
variable {P : Program} {w : World} {K : PySem.W.Frag} {mg : Str → Option Value} {base : Heap} {A : Nm → Addr} {D : Nm → FuncData} {C R RE fi rk f : Addr} {fdi fd : FuncData}
theorem scLaw : FnScope nLaw ["_law_script"] (defScope sLaw) := ⟨rfl, rfl, rfl, by decide +kernel, rfl, by decide +kernel, by decide +kernel⟩
theorem ok_law (T : Txt P K mg A D) (S : SttT K mg C A D fi fdi rk) (TR : RefTxt P K mg R) (Er : ErrC K mg R RE) (F : Fun K "law" "law" sLaw f fd) : FnOk P w K mg base CX0 8 f fd ["_law_script"] (spLaw K) := by
  refine F.ok scLaw (fun vs H Q E h => ?_) (fun cdv Ar outer s H vs Q E hr h => ?_)
  · obtain ⟨a, ns, rfl, _⟩ := h
    rfl
  · obtain ⟨a, ns, rfl, hS, hns, k⟩ := h
    have hu := hu_of hr
    have hr1 := hr.mono (j := 1) (by decide)
    have hr3 := hr.mono (j := 3) (by decide)
    have hr5 := hr.mono (j := 5) (by decide)
    have hr6 := hr.mono (j := 6) (by decide)
    have GN : FnOk P w K mg base CX0 1 _ _ _ spNext := ok_next T
    have GI : FnOk P w K mg base CX0 2 _ _ _ (spSInit C) := ok_sinit T S
    have GIt : FnOk P w K mg base CX0 1 _ _ _ (spItems C) := ok_items T S
    have GW : FnOk P w K mg base CX0 1 _ _ _ spWidths := ok_widths T
    have GB : FnOk P w K mg base CX0 5 _ _ _ spLBody := ok_lbody T
    have GP : FnOk P w K mg base CX0 3 _ _ _ spBodyProb := ok_bodyprob T
    have GS0 : FnOk P w K mg base CX0 1 _ _ _ (spSame 0) := ok_same T 0
    have GS2 : FnOk P w K mg base CX0 3 _ _ _ (spSame 2) := ok_same T 2
    have GS6 : FnOk P w K mg base CX0 7 _ _ _ (spSame 6) := ok_same T 6
    have GC : FnOk P w K mg base CX0 1 _ _ _ (fun vs H Q E => ∃ i : List (Str × Nat) × List Rul, spColumns C i.1 i.2 ["d"] vs H Q E) := fnAny fun i => ok_columns T S.cls
    have GT : FnOk P w K mg base CX0 6 _ _ _ (fun vs H Q E => ∃ i : List (Str × Nat) × List Rul, spTold C i.1 i.2 ["d"] vs H Q E) := fnAny fun i => ok_told T S.cls TR Er
    refine ⟨_, (pss_cons (ps_set (i := 1) scLaw.nd rfl (Or.inl rfl) (pe_lst (pa_cons (pe_callTy call_list_of (by rfl) T.list (by decide +kernel) (pa_cons (pv 0) pa_nil)) (pa_cons pe_int (pa_cons pe_int (pa_cons pe_int pa_nil))))))
      (pss_cons (ps_set (i := 2) scLaw.nd rfl (Or.inr rfl) (pe_disp (pps_cons pe_str (pe_disp (pps_cons pe_str pe_int (pps_cons pe_str pe_int (pps_cons pe_str (pe_op op_add pe_int (pe_call GN hr1 (by rfl) T.next.g T.next.kp T.next.b .nil pass0 (pa_cons (pv 1) (pa_cons pe_int pa_nil)))) pps_nil))) rfl rfl (List.cons_ne_nil _ _) (by decide)) (pps_cons pe_str pe_dnewK pps_nil)) rfl rfl (List.cons_ne_nil _ _) (by decide)))
      (pss_cons (ps_set (i := 3) scLaw.nd rfl (Or.inl rfl) (pe_tup (pa_cons pe_str (pa_cons pe_str pa_nil))))
      (pss_cons (ps_set (i := 4) scLaw.nd rfl (Or.inl rfl) (pe_lst (pa_cons (pe_tup (pa_cons pe_str (pa_cons (pe_tup (pa_cons (pv 3) pa_nil)) (pa_cons (pe_tup (pa_cons (pe_tup (pa_cons pe_str (pa_cons pe_str (pa_cons (pe_tup (pa_cons (pv 3) pa_nil)) pa_nil)))) pa_nil)) pa_nil)))) (pa_cons (pe_tup (pa_cons pe_str (pa_cons (pe_tup (pa_cons (pv 3) (pa_cons (pv 3) pa_nil))) (pa_cons (pe_tup (pa_cons (pe_tup (pa_cons pe_str (pa_cons pe_str (pa_cons (pe_tup (pa_cons (pv 3) pa_nil)) pa_nil)))) pa_nil)) pa_nil)))) (pa_cons (pe_tup (pa_cons pe_str (pa_cons (pe_tup (pa_cons (pe_tup (pa_cons pe_str (pa_cons pe_int pa_nil))) pa_nil)) (pa_cons (pe_tup pa_nil) pa_nil)))) pa_nil)))))
      (C8.pss_cut (ps_for PassesOwn.never rfl (pi_range1 (by rfl) T.range (pa_cons (pe_call GN hr1 (by rfl) T.next.g T.next.kp T.next.b .nil pass0 (pa_cons (pv 1) (pa_cons pe_int pa_nil))) pa_nil)) (pg_name (i := 5) scLaw.nd rfl (Or.inl rfl)) (pss_one (ps_dput hu (pe_dget hu (pv 2) pe_str (fun _ _ => rfl)) (pe_ix ix_list (pe_lst (pa_cons pe_str (pa_cons pe_str (pa_cons pe_str pa_nil)))) (pv 5) (fun _ _ => rfl)) (pe_ix ix_list (pv 4) (pv 5) (fun _ _ => rfl)) (by rfl))))
      (pss_cons (ps_lock (ps_setLc (i := 7) (own := [("_law_name", 6)]) (g := gName 6) rfl scLaw.nd rfl rfl (sw_true rfl rfl rfl (by decide +kernel)) (pi_keys (pe_dget hu (pv 2) pe_str (fun _ _ => rfl))) (blkOk_by (own := [("_law_name", 6)]) (N := nLaw) (sc := defScope sLaw) (by decide +kernel)) (fun _ _ _ _ _ => (pg_name (i := 6) scLaw.nd rfl (Or.inl rfl))) (fun _ _ _ _ _ => pts_nil) (fun _ _ _ _ _ => (pe_tup (pa_cons pe_str (pa_cons (pv 6) (pa_cons (pe_dget hu (pe_dget hu (pv 2) pe_str (fun _ _ => rfl)) (pv 6) (fun _ _ => rfl)) pa_nil)))))))
      (pss_cons (ps_set (i := 7) scLaw.nd rfl (Or.inl rfl) (pe_op op_cat (pe_op op_cat (pv 7) (pe_lock (pe_lc (own := [("_law_name", 6)]) (g := gName 6) rfl scLaw.nd (pi_keys (pe_dget hu (pv 2) pe_str (fun _ _ => rfl))) (blkOk_by (own := [("_law_name", 6)]) (N := nLaw) (sc := defScope sLaw) (by decide +kernel)) (fun _ _ _ _ _ => (pg_name (i := 6) scLaw.nd rfl (Or.inl rfl))) (fun _ _ _ _ _ => pts_nil) (fun _ _ _ _ _ => (pe_op (r := rCatT K) op_catT (pe_tup (pa_cons pe_str (pa_cons (pv 6) pa_nil))) (pe_dget hu (pe_dget hu (pv 2) pe_str (fun _ _ => rfl)) (pv 6) (fun _ _ => rfl))))))) (pe_lst (pa_cons (pe_tup (pa_cons pe_str (pa_cons pe_str (pa_cons (pe_tup pa_nil) pa_nil)))) pa_nil))))
      (pss_cons (ps_set (i := 8) scLaw.nd rfl (Or.inl rfl) (pe_make S.makes GI hr3 (by rfl) S.gC S.initB .nil pass0 (pa_cons (pv 7) pa_nil)))
      (C8.pss_cut (ps_set (i := 9) scLaw.nd rfl (Or.inl rfl) (pe_call GW hr1 (by rfl) T.widths.g T.widths.kp T.widths.b .nil pass0 (pa_cons (pv 2) pa_nil)))
      (C8.pss_cut (ps_for PassesOwn.never rfl (pi_list (pe_lst (pa_cons pe_str (pa_cons pe_str (pa_cons pe_str (pa_cons pe_str (pa_cons pe_str (pa_cons pe_str (pa_cons pe_str (pa_cons pe_str (pa_cons pe_str (pa_cons pe_str pa_nil)))))))))))) (pg_name (i := 6) scLaw.nd rfl (Or.inl rfl)) (pss_one (ps_if (pt_not (pt_val (pe_call GS0 hr1 (by rfl) T.same.g T.same.kp T.same.b .nil pass0 (pa_cons (pe_call GC hr1 (by rfl) T.columns.g T.columns.kp T.columns.b .nil pass0 (pa_cons (pv 8) (pa_cons (pv 6) pa_nil))) (pa_cons (pe_dget1 hu (pv 9) (pv 6) ⟨rfl, rfl, rfl, rfl⟩) pa_nil))))) (pss_one (ps_ret pe_bl)) pss_nil)))
      (C8.pss_cut (ps_for PassesOwn.never rfl (pi_range1 (by rfl) T.range (pa_cons pe_int pa_nil)) (pg_name (i := 5) scLaw.nd rfl (Or.inl rfl)) (pss_cons (ps_set (i := 10) scLaw.nd rfl (Or.inl rfl) (pe_call GB hr5 (by rfl) T.lbody.g T.lbody.kp T.lbody.b .nil pass0 (pa_cons (pv 1) (pa_cons (pv 9) (pa_cons pe_bl (pa_cons pe_int pa_nil))))))
      (pss_cons (ps_asg (pe_call GP hr3 (by rfl) T.bodyprob.g T.bodyprob.kp T.bodyprob.b .nil pass0 (pa_cons (pv 9) (pa_cons (pv 10) pa_nil))) (pg_tup rfl (pgs_cons (pg_name (i := 11) scLaw.nd rfl (Or.inl rfl)) (pgs_cons (pg_name (i := 12) scLaw.nd rfl (Or.inl rfl)) pgs_nil))))
      (pss_cons (ps_set (i := 13) scLaw.nd rfl (Or.inl rfl) (pe_tup (pa_cons pe_str (pa_cons (pe_callTy call_tuple_of (by rfl) T.tuple (by decide +kernel) (pa_cons (pv 12) pa_nil)) pa_nil))))
      (C8.pss_cut (ps_if (pt_cmp (pc_notN (pv 11))) (pss_one (ps_set (i := 13) scLaw.nd rfl (Or.inl rfl) (pe_tup (pa_cons pe_str (pa_cons (pv 11) pa_nil))))) pss_nil)
      (pss_cons (ps_if (pt_not (pt_val (pe_call GS2 hr3 (by rfl) T.same.g T.same.kp T.same.b .nil pass0 (pa_cons (pe_call GT hr6 (by rfl) T.told.g T.told.kp T.told.b .nil pass0 (pa_cons pe_str (pa_cons (pv 8) (pa_cons pe_str (pa_cons (pv 10) pa_nil))))) (pa_cons (pv 13) pa_nil))))) (pss_one (ps_ret pe_bl)) pss_nil)
      (pss_cons (ps_set (i := 6) scLaw.nd rfl (Or.inl rfl) (pe_ix ix_list (pe_lst (pa_cons pe_str (pa_cons pe_str (pa_cons pe_str (pa_cons pe_str (pa_cons pe_str (pa_cons pe_str pa_nil))))))) (pe_call GN hr1 (by rfl) T.next.g T.next.kp T.next.b .nil pass0 (pa_cons (pv 1) (pa_cons pe_int pa_nil))) (fun _ _ => rfl)))
      (C8.pss_cut (ps_if (pt_cmpR op_eq (pe_ix ix_tup (pv 13) pe_int (fun _ _ => rfl)) pe_str (nomark _)) (pss_one (ps_set (i := 13) scLaw.nd rfl (Or.inl rfl) (pe_tup (pa_cons pe_str (pa_cons pe_non pa_nil))))) pss_nil)
      (C8.pss_cut (ps_if (pt_cmpR op_eq (pv 6) pe_str (nomark _)) (pss_one (ps_set (i := 13) scLaw.nd rfl (Or.inl rfl) (pe_tup (pa_cons pe_str (pa_cons (pe_tup (pa_cons pe_str (pa_cons pe_str (pa_cons pe_str pa_nil)))) pa_nil))))) pss_nil)
      (pss_one (ps_if (pt_not (pt_val (pe_call GS2 hr3 (by rfl) T.same.g T.same.kp T.same.b .nil pass0 (pa_cons (pe_call GT hr6 (by rfl) T.told.g T.told.kp T.told.b .nil pass0 (pa_cons pe_str (pa_cons (pv 8) (pa_cons (pv 6) (pa_cons (pv 10) pa_nil))))) (pa_cons (pv 13) pa_nil))))) (pss_one (ps_ret pe_bl)) pss_nil)))))))))))
      (pss_one (ps_ret (pe_call GS6 hr (by rfl) T.same.g T.same.kp T.same.b .nil pass0 (pa_cons (pe_meth0 (pv 8) S.cls.cl S.items.m GIt hr1 S.items.b .nil pass0) (pa_cons (pe_meth0 (pe_make S.makes GI hr3 (by rfl) S.gC S.initB .nil pass0 (pa_cons (pv 7) pa_nil)) S.cls.cl S.items.m GIt hr1 S.items.b .nil pass0) pa_nil)))))))))))))))), ?_⟩
    refine ⟨_, rfl, a, _, rfl, .inl hS, fun c hc => ⟨few, fun st hst => ?_⟩⟩
    have S1 : StAt (L2.upd (L2.upd H c (.lst (ns.map V.int))) st (.lst [.ref c, .int 0, .int 0, .int 1])) st c :=
      ⟨ns, 0, 0, 1, by rw [upd_same]; rfl, by rw [upd_ne (ne_of_none upd_same hst)]; exact upd_same, Int.le_refl _, by decide, by decide⟩
    generalize L2.upd (L2.upd H c (.lst (ns.map V.int))) st (.lst [.ref c, .int 0, .int 0, .int 1]) = H1 at S1 ⊢
    refine fun wo hwo rl hrl => ?_
    have S1' := (S1.new (o := .dK []) hwo).new (o := .dK []) hrl
    refine ⟨_, rfl, st, c, _, rfl, by decide, by decide, S1', fun v H2 v0 v4 S2 e2 => ⟨_, _, rfl, rfl, ?_⟩⟩
    obtain ⟨m, rfl⟩ : ∃ m : Nat, v = m := ⟨v.toNat, by omega⟩
    have m3 : m < 4 := by omega
    have rl2 : H2 rl = some (.dK []) := e2 _ _ upd_same (by rintro rfl; exact (S1.new hwo).no hrl rfl)
    have wo2 : H2 wo = some (.dK []) := e2 _ _ (Same.upd hrl _ _ upd_same) (by rintro rfl; exact S1.no hwo rfl)
    have rw2 : rl ≠ wo := by
      rintro rfl
      rw [upd_same] at hrl
      cases hrl
    refine ⟨rl2, [(Sum.inr "p", .int 2), (Sum.inr "q", .int 1), (Sum.inr "r", .int (1 + (m : Int)))], rfl, Nat.le_of_ble_eq_true rfl, ?_⟩
    have ew : (1 : Int) + (m : Int) = ((1 + m : Nat) : Int) := by omega
    have rlx : L2.upd H2 rl (.dK (mergeK [] [(Sum.inr "p", .int 2), (Sum.inr "q", .int 1), (Sum.inr "r", .int (1 + (m : Int)))])) rl = some (.dK (relK (rels (1 + m)))) := by
      rw [upd_same, ew]
      rfl
    have S3 : StAt (L2.upd H2 rl (.dK (mergeK [] [(Sum.inr "p", .int 2), (Sum.inr "q", .int 1), (Sum.inr "r", .int (1 + (m : Int)))]))) st c := S2.put (by rintro rfl; exact (S1.new hwo).no hrl rfl) (by rintro rfl; exact (S1.new hwo).noc hrl rfl)
    have wo3 : L2.upd H2 rl (.dK (mergeK [] [(Sum.inr "p", .int 2), (Sum.inr "q", .int 1), (Sum.inr "r", .int (1 + (m : Int)))])) wo = some (.dK []) := by rw [upd_ne rw2.symm]; exact wo2
    have hw1 : 1 ≤ 1 + m := by omega
    have hw4 : 1 + m ≤ 4 := by omega
    clear e2 S2
    generalize 1 + m = wn at rlx hw1 hw4
    generalize L2.upd H2 rl (.dK (mergeK [] [(Sum.inr "p", .int 2), (Sum.inr "q", .int 1), (Sum.inr "r", .int (1 + (m : Int)))])) = H3 at rlx S3 wo3 ⊢
    refine fun ru hru => ⟨Same.upd hru _ _ wo3, [(Sum.inr "relations", .ref rl), (Sum.inr "rules", .ref ru)], rfl, Nat.le_of_ble_eq_true rfl, ?_⟩
    have S4 := (S3.new (o := .dK []) hru).put (o := .dK (mergeK [] [(Sum.inr "relations", .ref rl), (Sum.inr "rules", .ref ru)])) (S1.no hwo) (S1.noc hwo)
    have wr : wo ≠ ru := by
      rintro rfl
      rw [wo3] at hru
      cases hru
    have ru4 : L2.upd (L2.upd H3 ru (.dK [])) wo (.dK (mergeK [] [(Sum.inr "relations", .ref rl), (Sum.inr "rules", .ref ru)])) ru = some (.dK []) := by rw [upd_ne wr.symm]; exact upd_same
    have rl4 : L2.upd (L2.upd H3 ru (.dK [])) wo (.dK (mergeK [] [(Sum.inr "relations", .ref rl), (Sum.inr "rules", .ref ru)])) rl = some (.dK (relK (rels wn))) := by rw [upd_ne rw2]; exact Same.upd hru _ _ rlx
    have wo4 : L2.upd (L2.upd H3 ru (.dK [])) wo (.dK (mergeK [] [(Sum.inr "relations", .ref rl), (Sum.inr "rules", .ref ru)])) wo = some (.dK [(Sum.inr ("relations" : Str), .ref rl), (Sum.inr ("rules" : Str), .ref ru)]) := by
      rw [upd_same]
      rfl
    generalize L2.upd (L2.upd H3 ru (.dK [])) wo (.dK (mergeK [] [(Sum.inr "relations", .ref rl), (Sum.inr "rules", .ref ru)])) = H4 at S4 ru4 rl4 wo4 ⊢
    refine ⟨few, fun xa hxa => ⟨_, rfl, few, fun t1 ht1 => ⟨_, rfl, few, fun t2 ht2 => ⟨few, fun t3 ht3 => ⟨few, fun t4 ht4 => ⟨few, fun t5 ht5 => ?_⟩⟩⟩⟩⟩⟩
    refine ⟨_, rfl, _, rfl, few, fun t6 ht6 => ⟨_, rfl, few, fun t7 ht7 => ⟨few, fun t8 ht8 => ⟨few, fun t9 ht9 => ⟨few, fun t10 ht10 => ?_⟩⟩⟩⟩⟩
    refine ⟨few, fun t11 ht11 => ⟨few, fun t12 ht12 => ⟨few, fun t13 ht13 => ⟨few, fun t14 ht14 => ⟨few, fun ch hch => ?_⟩⟩⟩⟩⟩
    have s5 : Same H4 (L2.upd (L2.upd (L2.upd (L2.upd (L2.upd (L2.upd (L2.upd (L2.upd (L2.upd (L2.upd (L2.upd (L2.upd (L2.upd (L2.upd (L2.upd (L2.upd H4 xa (.tup [.str "variable", .str "x"])) t1 (.tup [.ref xa])) t2 (.tup [.ref xa])) t3 (.tup [.str "fact", .str "q", .ref t2])) t4 (.tup [.ref t3])) t5 (.tup [.str "u", .ref t1, .ref t4])) t6 (.tup [.ref xa, .ref xa])) t7 (.tup [.ref xa])) t8 (.tup [.str "fact", .str "q", .ref t7])) t9 (.tup [.ref t8])) t10 (.tup [.str "v", .ref t6, .ref t9])) t11 (.tup [.str "value", .int 1])) t12 (.tup [.ref t11])) t13 (.tup [])) t14 (.tup [.str "w", .ref t12, .ref t13])) ch (.lst [.ref t5, .ref t10, .ref t14])) := fun b o q => (Same.upd hch _ _ (Same.upd ht14 _ _ (Same.upd ht13 _ _ (Same.upd ht12 _ _ (Same.upd ht11 _ _ (Same.upd ht10 _ _ (Same.upd ht9 _ _ (Same.upd ht8 _ _ (Same.upd ht7 _ _ (Same.upd ht6 _ _ (Same.upd ht5 _ _ (Same.upd ht4 _ _ (Same.upd ht3 _ _ (Same.upd ht2 _ _ (Same.upd ht1 _ _ (Same.upd hxa _ _ q))))))))))))))))
    have g_xa : (L2.upd (L2.upd (L2.upd (L2.upd (L2.upd (L2.upd (L2.upd (L2.upd (L2.upd (L2.upd (L2.upd (L2.upd (L2.upd (L2.upd (L2.upd (L2.upd H4 xa (.tup [.str "variable", .str "x"])) t1 (.tup [.ref xa])) t2 (.tup [.ref xa])) t3 (.tup [.str "fact", .str "q", .ref t2])) t4 (.tup [.ref t3])) t5 (.tup [.str "u", .ref t1, .ref t4])) t6 (.tup [.ref xa, .ref xa])) t7 (.tup [.ref xa])) t8 (.tup [.str "fact", .str "q", .ref t7])) t9 (.tup [.ref t8])) t10 (.tup [.str "v", .ref t6, .ref t9])) t11 (.tup [.str "value", .int 1])) t12 (.tup [.ref t11])) t13 (.tup [])) t14 (.tup [.str "w", .ref t12, .ref t13])) ch (.lst [.ref t5, .ref t10, .ref t14])) xa = some (.tup [.str "variable", .str "x"]) := (Same.upd hch _ _ (Same.upd ht14 _ _ (Same.upd ht13 _ _ (Same.upd ht12 _ _ (Same.upd ht11 _ _ (Same.upd ht10 _ _ (Same.upd ht9 _ _ (Same.upd ht8 _ _ (Same.upd ht7 _ _ (Same.upd ht6 _ _ (Same.upd ht5 _ _ (Same.upd ht4 _ _ (Same.upd ht3 _ _ (Same.upd ht2 _ _ (Same.upd ht1 _ _ upd_same)))))))))))))))
    have g_t1 : (L2.upd (L2.upd (L2.upd (L2.upd (L2.upd (L2.upd (L2.upd (L2.upd (L2.upd (L2.upd (L2.upd (L2.upd (L2.upd (L2.upd (L2.upd (L2.upd H4 xa (.tup [.str "variable", .str "x"])) t1 (.tup [.ref xa])) t2 (.tup [.ref xa])) t3 (.tup [.str "fact", .str "q", .ref t2])) t4 (.tup [.ref t3])) t5 (.tup [.str "u", .ref t1, .ref t4])) t6 (.tup [.ref xa, .ref xa])) t7 (.tup [.ref xa])) t8 (.tup [.str "fact", .str "q", .ref t7])) t9 (.tup [.ref t8])) t10 (.tup [.str "v", .ref t6, .ref t9])) t11 (.tup [.str "value", .int 1])) t12 (.tup [.ref t11])) t13 (.tup [])) t14 (.tup [.str "w", .ref t12, .ref t13])) ch (.lst [.ref t5, .ref t10, .ref t14])) t1 = some (.tup [.ref xa]) := (Same.upd hch _ _ (Same.upd ht14 _ _ (Same.upd ht13 _ _ (Same.upd ht12 _ _ (Same.upd ht11 _ _ (Same.upd ht10 _ _ (Same.upd ht9 _ _ (Same.upd ht8 _ _ (Same.upd ht7 _ _ (Same.upd ht6 _ _ (Same.upd ht5 _ _ (Same.upd ht4 _ _ (Same.upd ht3 _ _ (Same.upd ht2 _ _ upd_same))))))))))))))
    have g_t2 : (L2.upd (L2.upd (L2.upd (L2.upd (L2.upd (L2.upd (L2.upd (L2.upd (L2.upd (L2.upd (L2.upd (L2.upd (L2.upd (L2.upd (L2.upd (L2.upd H4 xa (.tup [.str "variable", .str "x"])) t1 (.tup [.ref xa])) t2 (.tup [.ref xa])) t3 (.tup [.str "fact", .str "q", .ref t2])) t4 (.tup [.ref t3])) t5 (.tup [.str "u", .ref t1, .ref t4])) t6 (.tup [.ref xa, .ref xa])) t7 (.tup [.ref xa])) t8 (.tup [.str "fact", .str "q", .ref t7])) t9 (.tup [.ref t8])) t10 (.tup [.str "v", .ref t6, .ref t9])) t11 (.tup [.str "value", .int 1])) t12 (.tup [.ref t11])) t13 (.tup [])) t14 (.tup [.str "w", .ref t12, .ref t13])) ch (.lst [.ref t5, .ref t10, .ref t14])) t2 = some (.tup [.ref xa]) := (Same.upd hch _ _ (Same.upd ht14 _ _ (Same.upd ht13 _ _ (Same.upd ht12 _ _ (Same.upd ht11 _ _ (Same.upd ht10 _ _ (Same.upd ht9 _ _ (Same.upd ht8 _ _ (Same.upd ht7 _ _ (Same.upd ht6 _ _ (Same.upd ht5 _ _ (Same.upd ht4 _ _ (Same.upd ht3 _ _ upd_same)))))))))))))
    have g_t3 : (L2.upd (L2.upd (L2.upd (L2.upd (L2.upd (L2.upd (L2.upd (L2.upd (L2.upd (L2.upd (L2.upd (L2.upd (L2.upd (L2.upd (L2.upd (L2.upd H4 xa (.tup [.str "variable", .str "x"])) t1 (.tup [.ref xa])) t2 (.tup [.ref xa])) t3 (.tup [.str "fact", .str "q", .ref t2])) t4 (.tup [.ref t3])) t5 (.tup [.str "u", .ref t1, .ref t4])) t6 (.tup [.ref xa, .ref xa])) t7 (.tup [.ref xa])) t8 (.tup [.str "fact", .str "q", .ref t7])) t9 (.tup [.ref t8])) t10 (.tup [.str "v", .ref t6, .ref t9])) t11 (.tup [.str "value", .int 1])) t12 (.tup [.ref t11])) t13 (.tup [])) t14 (.tup [.str "w", .ref t12, .ref t13])) ch (.lst [.ref t5, .ref t10, .ref t14])) t3 = some (.tup [.str "fact", .str "q", .ref t2]) := (Same.upd hch _ _ (Same.upd ht14 _ _ (Same.upd ht13 _ _ (Same.upd ht12 _ _ (Same.upd ht11 _ _ (Same.upd ht10 _ _ (Same.upd ht9 _ _ (Same.upd ht8 _ _ (Same.upd ht7 _ _ (Same.upd ht6 _ _ (Same.upd ht5 _ _ (Same.upd ht4 _ _ upd_same))))))))))))
    have g_t4 : (L2.upd (L2.upd (L2.upd (L2.upd (L2.upd (L2.upd (L2.upd (L2.upd (L2.upd (L2.upd (L2.upd (L2.upd (L2.upd (L2.upd (L2.upd (L2.upd H4 xa (.tup [.str "variable", .str "x"])) t1 (.tup [.ref xa])) t2 (.tup [.ref xa])) t3 (.tup [.str "fact", .str "q", .ref t2])) t4 (.tup [.ref t3])) t5 (.tup [.str "u", .ref t1, .ref t4])) t6 (.tup [.ref xa, .ref xa])) t7 (.tup [.ref xa])) t8 (.tup [.str "fact", .str "q", .ref t7])) t9 (.tup [.ref t8])) t10 (.tup [.str "v", .ref t6, .ref t9])) t11 (.tup [.str "value", .int 1])) t12 (.tup [.ref t11])) t13 (.tup [])) t14 (.tup [.str "w", .ref t12, .ref t13])) ch (.lst [.ref t5, .ref t10, .ref t14])) t4 = some (.tup [.ref t3]) := (Same.upd hch _ _ (Same.upd ht14 _ _ (Same.upd ht13 _ _ (Same.upd ht12 _ _ (Same.upd ht11 _ _ (Same.upd ht10 _ _ (Same.upd ht9 _ _ (Same.upd ht8 _ _ (Same.upd ht7 _ _ (Same.upd ht6 _ _ (Same.upd ht5 _ _ upd_same)))))))))))
    have g_t5 : (L2.upd (L2.upd (L2.upd (L2.upd (L2.upd (L2.upd (L2.upd (L2.upd (L2.upd (L2.upd (L2.upd (L2.upd (L2.upd (L2.upd (L2.upd (L2.upd H4 xa (.tup [.str "variable", .str "x"])) t1 (.tup [.ref xa])) t2 (.tup [.ref xa])) t3 (.tup [.str "fact", .str "q", .ref t2])) t4 (.tup [.ref t3])) t5 (.tup [.str "u", .ref t1, .ref t4])) t6 (.tup [.ref xa, .ref xa])) t7 (.tup [.ref xa])) t8 (.tup [.str "fact", .str "q", .ref t7])) t9 (.tup [.ref t8])) t10 (.tup [.str "v", .ref t6, .ref t9])) t11 (.tup [.str "value", .int 1])) t12 (.tup [.ref t11])) t13 (.tup [])) t14 (.tup [.str "w", .ref t12, .ref t13])) ch (.lst [.ref t5, .ref t10, .ref t14])) t5 = some (.tup [.str "u", .ref t1, .ref t4]) := (Same.upd hch _ _ (Same.upd ht14 _ _ (Same.upd ht13 _ _ (Same.upd ht12 _ _ (Same.upd ht11 _ _ (Same.upd ht10 _ _ (Same.upd ht9 _ _ (Same.upd ht8 _ _ (Same.upd ht7 _ _ (Same.upd ht6 _ _ upd_same))))))))))
    have g_t6 : (L2.upd (L2.upd (L2.upd (L2.upd (L2.upd (L2.upd (L2.upd (L2.upd (L2.upd (L2.upd (L2.upd (L2.upd (L2.upd (L2.upd (L2.upd (L2.upd H4 xa (.tup [.str "variable", .str "x"])) t1 (.tup [.ref xa])) t2 (.tup [.ref xa])) t3 (.tup [.str "fact", .str "q", .ref t2])) t4 (.tup [.ref t3])) t5 (.tup [.str "u", .ref t1, .ref t4])) t6 (.tup [.ref xa, .ref xa])) t7 (.tup [.ref xa])) t8 (.tup [.str "fact", .str "q", .ref t7])) t9 (.tup [.ref t8])) t10 (.tup [.str "v", .ref t6, .ref t9])) t11 (.tup [.str "value", .int 1])) t12 (.tup [.ref t11])) t13 (.tup [])) t14 (.tup [.str "w", .ref t12, .ref t13])) ch (.lst [.ref t5, .ref t10, .ref t14])) t6 = some (.tup [.ref xa, .ref xa]) := (Same.upd hch _ _ (Same.upd ht14 _ _ (Same.upd ht13 _ _ (Same.upd ht12 _ _ (Same.upd ht11 _ _ (Same.upd ht10 _ _ (Same.upd ht9 _ _ (Same.upd ht8 _ _ (Same.upd ht7 _ _ upd_same)))))))))
    have g_t7 : (L2.upd (L2.upd (L2.upd (L2.upd (L2.upd (L2.upd (L2.upd (L2.upd (L2.upd (L2.upd (L2.upd (L2.upd (L2.upd (L2.upd (L2.upd (L2.upd H4 xa (.tup [.str "variable", .str "x"])) t1 (.tup [.ref xa])) t2 (.tup [.ref xa])) t3 (.tup [.str "fact", .str "q", .ref t2])) t4 (.tup [.ref t3])) t5 (.tup [.str "u", .ref t1, .ref t4])) t6 (.tup [.ref xa, .ref xa])) t7 (.tup [.ref xa])) t8 (.tup [.str "fact", .str "q", .ref t7])) t9 (.tup [.ref t8])) t10 (.tup [.str "v", .ref t6, .ref t9])) t11 (.tup [.str "value", .int 1])) t12 (.tup [.ref t11])) t13 (.tup [])) t14 (.tup [.str "w", .ref t12, .ref t13])) ch (.lst [.ref t5, .ref t10, .ref t14])) t7 = some (.tup [.ref xa]) := (Same.upd hch _ _ (Same.upd ht14 _ _ (Same.upd ht13 _ _ (Same.upd ht12 _ _ (Same.upd ht11 _ _ (Same.upd ht10 _ _ (Same.upd ht9 _ _ (Same.upd ht8 _ _ upd_same))))))))
    have g_t8 : (L2.upd (L2.upd (L2.upd (L2.upd (L2.upd (L2.upd (L2.upd (L2.upd (L2.upd (L2.upd (L2.upd (L2.upd (L2.upd (L2.upd (L2.upd (L2.upd H4 xa (.tup [.str "variable", .str "x"])) t1 (.tup [.ref xa])) t2 (.tup [.ref xa])) t3 (.tup [.str "fact", .str "q", .ref t2])) t4 (.tup [.ref t3])) t5 (.tup [.str "u", .ref t1, .ref t4])) t6 (.tup [.ref xa, .ref xa])) t7 (.tup [.ref xa])) t8 (.tup [.str "fact", .str "q", .ref t7])) t9 (.tup [.ref t8])) t10 (.tup [.str "v", .ref t6, .ref t9])) t11 (.tup [.str "value", .int 1])) t12 (.tup [.ref t11])) t13 (.tup [])) t14 (.tup [.str "w", .ref t12, .ref t13])) ch (.lst [.ref t5, .ref t10, .ref t14])) t8 = some (.tup [.str "fact", .str "q", .ref t7]) := (Same.upd hch _ _ (Same.upd ht14 _ _ (Same.upd ht13 _ _ (Same.upd ht12 _ _ (Same.upd ht11 _ _ (Same.upd ht10 _ _ (Same.upd ht9 _ _ upd_same)))))))
    have g_t9 : (L2.upd (L2.upd (L2.upd (L2.upd (L2.upd (L2.upd (L2.upd (L2.upd (L2.upd (L2.upd (L2.upd (L2.upd (L2.upd (L2.upd (L2.upd (L2.upd H4 xa (.tup [.str "variable", .str "x"])) t1 (.tup [.ref xa])) t2 (.tup [.ref xa])) t3 (.tup [.str "fact", .str "q", .ref t2])) t4 (.tup [.ref t3])) t5 (.tup [.str "u", .ref t1, .ref t4])) t6 (.tup [.ref xa, .ref xa])) t7 (.tup [.ref xa])) t8 (.tup [.str "fact", .str "q", .ref t7])) t9 (.tup [.ref t8])) t10 (.tup [.str "v", .ref t6, .ref t9])) t11 (.tup [.str "value", .int 1])) t12 (.tup [.ref t11])) t13 (.tup [])) t14 (.tup [.str "w", .ref t12, .ref t13])) ch (.lst [.ref t5, .ref t10, .ref t14])) t9 = some (.tup [.ref t8]) := (Same.upd hch _ _ (Same.upd ht14 _ _ (Same.upd ht13 _ _ (Same.upd ht12 _ _ (Same.upd ht11 _ _ (Same.upd ht10 _ _ upd_same))))))
    have g_t10 : (L2.upd (L2.upd (L2.upd (L2.upd (L2.upd (L2.upd (L2.upd (L2.upd (L2.upd (L2.upd (L2.upd (L2.upd (L2.upd (L2.upd (L2.upd (L2.upd H4 xa (.tup [.str "variable", .str "x"])) t1 (.tup [.ref xa])) t2 (.tup [.ref xa])) t3 (.tup [.str "fact", .str "q", .ref t2])) t4 (.tup [.ref t3])) t5 (.tup [.str "u", .ref t1, .ref t4])) t6 (.tup [.ref xa, .ref xa])) t7 (.tup [.ref xa])) t8 (.tup [.str "fact", .str "q", .ref t7])) t9 (.tup [.ref t8])) t10 (.tup [.str "v", .ref t6, .ref t9])) t11 (.tup [.str "value", .int 1])) t12 (.tup [.ref t11])) t13 (.tup [])) t14 (.tup [.str "w", .ref t12, .ref t13])) ch (.lst [.ref t5, .ref t10, .ref t14])) t10 = some (.tup [.str "v", .ref t6, .ref t9]) := (Same.upd hch _ _ (Same.upd ht14 _ _ (Same.upd ht13 _ _ (Same.upd ht12 _ _ (Same.upd ht11 _ _ upd_same)))))
    have g_t11 : (L2.upd (L2.upd (L2.upd (L2.upd (L2.upd (L2.upd (L2.upd (L2.upd (L2.upd (L2.upd (L2.upd (L2.upd (L2.upd (L2.upd (L2.upd (L2.upd H4 xa (.tup [.str "variable", .str "x"])) t1 (.tup [.ref xa])) t2 (.tup [.ref xa])) t3 (.tup [.str "fact", .str "q", .ref t2])) t4 (.tup [.ref t3])) t5 (.tup [.str "u", .ref t1, .ref t4])) t6 (.tup [.ref xa, .ref xa])) t7 (.tup [.ref xa])) t8 (.tup [.str "fact", .str "q", .ref t7])) t9 (.tup [.ref t8])) t10 (.tup [.str "v", .ref t6, .ref t9])) t11 (.tup [.str "value", .int 1])) t12 (.tup [.ref t11])) t13 (.tup [])) t14 (.tup [.str "w", .ref t12, .ref t13])) ch (.lst [.ref t5, .ref t10, .ref t14])) t11 = some (.tup [.str "value", .int 1]) := (Same.upd hch _ _ (Same.upd ht14 _ _ (Same.upd ht13 _ _ (Same.upd ht12 _ _ upd_same))))
    have g_t12 : (L2.upd (L2.upd (L2.upd (L2.upd (L2.upd (L2.upd (L2.upd (L2.upd (L2.upd (L2.upd (L2.upd (L2.upd (L2.upd (L2.upd (L2.upd (L2.upd H4 xa (.tup [.str "variable", .str "x"])) t1 (.tup [.ref xa])) t2 (.tup [.ref xa])) t3 (.tup [.str "fact", .str "q", .ref t2])) t4 (.tup [.ref t3])) t5 (.tup [.str "u", .ref t1, .ref t4])) t6 (.tup [.ref xa, .ref xa])) t7 (.tup [.ref xa])) t8 (.tup [.str "fact", .str "q", .ref t7])) t9 (.tup [.ref t8])) t10 (.tup [.str "v", .ref t6, .ref t9])) t11 (.tup [.str "value", .int 1])) t12 (.tup [.ref t11])) t13 (.tup [])) t14 (.tup [.str "w", .ref t12, .ref t13])) ch (.lst [.ref t5, .ref t10, .ref t14])) t12 = some (.tup [.ref t11]) := (Same.upd hch _ _ (Same.upd ht14 _ _ (Same.upd ht13 _ _ upd_same)))
    have g_t13 : (L2.upd (L2.upd (L2.upd (L2.upd (L2.upd (L2.upd (L2.upd (L2.upd (L2.upd (L2.upd (L2.upd (L2.upd (L2.upd (L2.upd (L2.upd (L2.upd H4 xa (.tup [.str "variable", .str "x"])) t1 (.tup [.ref xa])) t2 (.tup [.ref xa])) t3 (.tup [.str "fact", .str "q", .ref t2])) t4 (.tup [.ref t3])) t5 (.tup [.str "u", .ref t1, .ref t4])) t6 (.tup [.ref xa, .ref xa])) t7 (.tup [.ref xa])) t8 (.tup [.str "fact", .str "q", .ref t7])) t9 (.tup [.ref t8])) t10 (.tup [.str "v", .ref t6, .ref t9])) t11 (.tup [.str "value", .int 1])) t12 (.tup [.ref t11])) t13 (.tup [])) t14 (.tup [.str "w", .ref t12, .ref t13])) ch (.lst [.ref t5, .ref t10, .ref t14])) t13 = some (.tup []) := (Same.upd hch _ _ (Same.upd ht14 _ _ upd_same))
    have g_t14 : (L2.upd (L2.upd (L2.upd (L2.upd (L2.upd (L2.upd (L2.upd (L2.upd (L2.upd (L2.upd (L2.upd (L2.upd (L2.upd (L2.upd (L2.upd (L2.upd H4 xa (.tup [.str "variable", .str "x"])) t1 (.tup [.ref xa])) t2 (.tup [.ref xa])) t3 (.tup [.str "fact", .str "q", .ref t2])) t4 (.tup [.ref t3])) t5 (.tup [.str "u", .ref t1, .ref t4])) t6 (.tup [.ref xa, .ref xa])) t7 (.tup [.ref xa])) t8 (.tup [.str "fact", .str "q", .ref t7])) t9 (.tup [.ref t8])) t10 (.tup [.str "v", .ref t6, .ref t9])) t11 (.tup [.str "value", .int 1])) t12 (.tup [.ref t11])) t13 (.tup [])) t14 (.tup [.str "w", .ref t12, .ref t13])) ch (.lst [.ref t5, .ref t10, .ref t14])) t14 = some (.tup [.str "w", .ref t12, .ref t13]) := (Same.upd hch _ _ upd_same)
    have g_ch : (L2.upd (L2.upd (L2.upd (L2.upd (L2.upd (L2.upd (L2.upd (L2.upd (L2.upd (L2.upd (L2.upd (L2.upd (L2.upd (L2.upd (L2.upd (L2.upd H4 xa (.tup [.str "variable", .str "x"])) t1 (.tup [.ref xa])) t2 (.tup [.ref xa])) t3 (.tup [.str "fact", .str "q", .ref t2])) t4 (.tup [.ref t3])) t5 (.tup [.str "u", .ref t1, .ref t4])) t6 (.tup [.ref xa, .ref xa])) t7 (.tup [.ref xa])) t8 (.tup [.str "fact", .str "q", .ref t7])) t9 (.tup [.ref t8])) t10 (.tup [.str "v", .ref t6, .ref t9])) t11 (.tup [.str "value", .int 1])) t12 (.tup [.ref t11])) t13 (.tup [])) t14 (.tup [.str "w", .ref t12, .ref t13])) ch (.lst [.ref t5, .ref t10, .ref t14])) ch = some (.lst [.ref t5, .ref t10, .ref t14]) := upd_same
    generalize (L2.upd (L2.upd (L2.upd (L2.upd (L2.upd (L2.upd (L2.upd (L2.upd (L2.upd (L2.upd (L2.upd (L2.upd (L2.upd (L2.upd (L2.upd (L2.upd H4 xa (.tup [.str "variable", .str "x"])) t1 (.tup [.ref xa])) t2 (.tup [.ref xa])) t3 (.tup [.str "fact", .str "q", .ref t2])) t4 (.tup [.ref t3])) t5 (.tup [.str "u", .ref t1, .ref t4])) t6 (.tup [.ref xa, .ref xa])) t7 (.tup [.ref xa])) t8 (.tup [.str "fact", .str "q", .ref t7])) t9 (.tup [.ref t8])) t10 (.tup [.str "v", .ref t6, .ref t9])) t11 (.tup [.str "value", .int 1])) t12 (.tup [.ref t11])) t13 (.tup [])) t14 (.tup [.str "w", .ref t12, .ref t13])) ch (.lst [.ref t5, .ref t10, .ref t14])) = H5 at s5 g_xa g_t1 g_t2 g_t3 g_t4 g_t5 g_t6 g_t7 g_t8 g_t9 g_t10 g_t11 g_t12 g_t13 g_t14 g_ch ⊢
    have S5 := S4.same s5
    have ru5 := s5 _ _ ru4
    have rl5 := s5 _ _ rl4
    have wo5 := s5 _ _ wo4
    clear S4 ru4 rl4 wo4 s5 hxa ht1 ht2 ht3 ht4 ht5 ht6 ht7 ht8 ht9 ht10 ht11 ht12 ht13 ht14 hch
    have fx : FixT H5 1 (.ref xa) := fixTup g_xa (mem2 fixS fixS) (by show 2 ≤ 100; decide)
    have f1 : FixT H5 4 (.ref t1) := (fixTup g_t1 (mem1 fx) (by show 1 ≤ 100; decide)).up.up
    have f4 : FixT H5 4 (.ref t4) := fixTup g_t4 (mem1 (fixTup g_t3 (mem3 fixS fixS (fixTup g_t2 (mem1 fx) (by show 1 ≤ 100; decide))) (by show 3 ≤ 100; decide))) (by show 1 ≤ 100; decide)
    have f6 : FixT H5 4 (.ref t6) := (fixTup g_t6 (mem2 fx fx) (by show 2 ≤ 100; decide)).up.up
    have f9 : FixT H5 4 (.ref t9) := fixTup g_t9 (mem1 (fixTup g_t8 (mem3 fixS fixS (fixTup g_t7 (mem1 fx) (by show 1 ≤ 100; decide))) (by show 3 ≤ 100; decide))) (by show 1 ≤ 100; decide)
    have f12 : FixT H5 4 (.ref t12) := (fixTup g_t12 (mem1 (fixTup (n := 0) g_t11 (mem2 fixS fixI) (by show 2 ≤ 100; decide))) (by show 1 ≤ 100; decide)).up.up
    have f13 : FixT H5 4 (.ref t13) := fixTup g_t13 (fun _ h => by cases h) (by show 0 ≤ 100; decide)
    have rf5 : Paired (RfAt H5) [("n0", "u", .ref t1, .ref t4), ("d", "v", .ref t6, .ref t9), ("q", "w", .ref t12, .ref t13)] ruls :=
      .cons ⟨rfl, rfl, ⟨t1, _, rfl, g_t1, rfl⟩, f1, f4⟩ (.cons ⟨rfl, rfl, ⟨t6, _, rfl, g_t6, rfl⟩, f6, f9⟩ (.cons ⟨rfl, rfl, ⟨t12, _, rfl, g_t12, rfl⟩, f12, f13⟩ .nil))
    have cs5 : Paired (ChAt H5) [.ref t5, .ref t10, .ref t14] [("n0", "u", .ref t1, .ref t4), ("d", "v", .ref t6, .ref t9), ("q", "w", .ref t12, .ref t13)] :=
      .cons ⟨t5, rfl, g_t5⟩ (.cons ⟨t10, rfl, g_t10⟩ (.cons ⟨t14, rfl, g_t14⟩ .nil))
    clear f1 f4 f6 f9 f12 f13 fx g_xa g_t1 g_t2 g_t3 g_t4 g_t5 g_t6 g_t7 g_t8 g_t9 g_t10 g_t11 g_t12 g_t13 g_t14
    generalize ([("n0", "u", .ref t1, .ref t4), ("d", "v", .ref t6, .ref t9), ("q", "w", .ref t12, .ref t13)] : List (Str × Str × V × V)) = rvs at rf5 cs5
    generalize ([.ref t5, .ref t10, .ref t14] : List V) = cs at cs5 g_ch
    have rl_ru : rl ≠ ru := ne_of rl5 ru5 (by intro z; exact absurd (HO.dK.inj z) (by unfold relK rels; simp))
    have lr3 : rvs.length = 3 := (Paired.len rf5).trans rfl
    have lc3 : cs.length = 3 := (Paired.len cs5).trans lr3
    have chn : ch ≠ st := by
      rintro rfl
      obtain ⟨cells, i, big, r, hs, _⟩ := S5
      rw [g_ch] at hs
      have z := congrArg List.length (HO.lst.inj (Option.some.inj hs))
      rw [lc3] at z
      cases z
    refine ⟨fun σ H' => ∃ (v5 : Option V) (n : Nat) (ruk : List (Key × V)), σ = [some (.ref a), some (.ref st), some (.ref wo), some (.ref xa), some (.ref ch), v5, none, none, none, none, none, none, none, none] ∧ W1 H' st c wo rl ru wn n ruk (rvs.take n), ?_, ?_⟩
    · refine ⟨_, rfl, st, c, _, rfl, by decide, by decide, S5, fun v H6 n0 n1 S6 e6 => ⟨_, rfl, by omega, by omega, ?_⟩⟩
      have tu6 := e6.tu S5
      have wo6 := e6 _ _ wo5 (st_ne S5 wo5 (by intro x z; cases z))
      have rl6 := e6 _ _ rl5 (st_ne S5 rl5 (by intro x z; cases z))
      have ru6 := e6 _ _ ru5 (st_ne S5 ru5 (by intro x z; cases z))
      have ch6 := e6 _ _ g_ch chn
      have rf6 := RfAt.all tu6 rf5
      have cs6 : Paired (ChAt H6) cs rvs := Paired.mapP cs5 fun _ _ ⟨b, q1, q2⟩ => ⟨b, q1, tu6 _ _ q2⟩
      have rust : ru ≠ st := st_ne S5 ru5 (by intro x z; cases z)
      have ruc : ru ≠ c := by
        rintro rfl
        obtain ⟨cells, i, big, r, hs, hcc, _⟩ := S5
        rw [ru5] at hcc
        cases hcc
      clear e6
      refine for_range (lo := 0) (n := v.toNat) (fun i σ H7 => (∃ v5 : Option V, σ = [some (.ref a), some (.ref st), some (.ref wo), some (.ref xa), some (.ref ch), v5, none, none, none, none, none, none, none, none]) ∧ ∃ ruk : List (Key × V), H7 ru = some (.dK ruk) ∧ Paired (RvAt H7) ruk (rvs.take i) ∧ Fr ru H6 H7)
        ⟨⟨_, rfl⟩, [], ru6, .nil, Fr.refl⟩ ?_ ?_
      · rintro i σ H7 hi ⟨⟨v5, rfl⟩, ruk, hru7, hrv, e7⟩
        have i3 : i < 3 := by omega
        have tu7 : Tu H6 H7 := fun b ys h => e7 _ _ h (ne_of h ru6 (by intro z; cases z))
        obtain ⟨cv, hcv⟩ : ∃ cv, cs[i]? = some cv := ⟨cs[i]'(by omega), List.getElem?_eq_getElem (by omega)⟩
        obtain ⟨r, hr', ca, rfl, hca⟩ := Paired.get cs6 hcv
        obtain ⟨kk, hkk, qk⟩ := Paired.get rf6 hr'
        have nm : ([V.str "n0", V.str "d", V.str "q"] : List V)[i]? = some (.str r.1) := by
          show ((ruls.map (·.1)).map V.str)[i]? = _
          rw [List.getElem?_map, List.getElem?_map, hkk, qk.1]
          rfl
        have ch7 := e7 _ _ ch6 (ne_of ch6 ru6 (by intro z; cases z))
        have wo7 := e7 _ _ wo6 wr
        refine ⟨_, rfl, _, rfl, ch, _, _, _, rfl, by rw [Int.zero_add], SqL.of ch7, atI_nat hcv, ?_⟩
        refine ⟨_, rfl, wo, _, rfl, dgetS wo7 (by rfl), few, fun nl hnl => ?_⟩
        refine ⟨_, rfl, nl, _, _, _, rfl, by rw [Int.zero_add], SqL.of upd_same, atI_nat nm, ?_⟩
        have rl7 : ruk.length ≤ 3 := by
          have := Paired.len hrv
          rw [List.length_take] at this
          omega
        refine ⟨ru, _, rfl, DPut.k (k := Sum.inr r.1) (Same.upd hnl _ _ hru7) (line4' (by omega)), ⟨_, rfl⟩, ruk ++ [(Sum.inr r.1, .ref ca)], ?_, ?_, ?_⟩
        · have nin : r.1 ∉ (rvs.take i).map (·.1) := by
            have z : ((rvs.take (i + 1)).map (·.1)).Nodup := by
              rw [rf_names (Paired.take (i + 1) rf6)]
              exact ruls_nd (i + 1)
            rw [take_more hr', List.map_append, List.nodup_append] at z
            exact fun h => z.2.2 r.1 h r.1 (List.mem_singleton.mpr rfl) rfl
          rw [upd_same, putK_new _ (rv_none hrv nin)]
        · rw [take_more hr']
          have tu8 : ∀ kvs, Tu H7 (L2.upd (L2.upd H7 nl (.lst [.str "n0", .str "d", .str "q"])) ru (.dK kvs)) := fun kvs => (Tu.upd hnl).trans (Tu.set (Same.upd hnl _ _ hru7) (by intro xs z; cases z))
          exact Paired.snoc (RvAt.all (tu8 _) hrv) ⟨rfl, ca, rfl, tu8 _ _ _ (tu7 _ _ hca)⟩
        · exact fun b o hb n => by rw [upd_ne n]; exact Same.upd hnl _ _ (e7 _ _ hb n)
      · rintro σ H7 ⟨⟨v5, rfl⟩, ruk, hru7, hrv, e7⟩
        have tu7 : Tu H6 H7 := fun b ys h => e7 _ _ h (ne_of h ru6 (by intro z; cases z))
        obtain ⟨cells, i, big, r, hs, hcc, q⟩ := S6
        exact ⟨v5, v.toNat, ruk, rfl, ⟨cells, i, big, r, e7 _ _ hs rust.symm, e7 _ _ hcc ruc.symm, q⟩, e7 _ _ wo6 wr, e7 _ _ rl6 rl_ru, hru7, hrv, RfAt.all tu7 (Paired.take _ rf6), hw1, hw4, by omega⟩
    clear S5 ru5 rl5 wo5 g_ch rf5 cs5 lr3 lc3 chn
    rintro σ H7 ⟨v5, n, ruk, rfl, W⟩
    generalize rvs.take n = rvs at W
    -- the items of the relations
    have wol : ∀ od, L2.upd H7 rl (.frz od (.dK (relK (rels wn)))) wo = some (.dK [(Sum.inr ("relations" : Str), .ref rl), (Sum.inr ("rules" : Str), .ref ru)]) := fun od => by rw [upd_ne rw2.symm]; exact W.wo_
    refine ⟨rl, _, W.rl_, True.intro, fun od => ?_⟩
    refine ⟨_, rfl, wo, _, rfl, dgetS (wol od) (by rfl), rl, od, rfl, .inl ⟨_, upd_same, fun d hd => ?_⟩⟩
    have rll : L2.upd H7 rl (.frz od (.dK (relK (rels wn)))) rl = some (.frz od (.dK (relK (rels wn)))) := upd_same
    have drl : d ≠ rl := by
      rintro rfl
      rw [rll] at hd
      cases hd
    refine lc_it walk_keys (fun j H6 => ∃ zs : List V, H6 d = some (.lst zs) ∧ Paired (ItAt H6) zs (((rels wn).take j).map (fun x => It.rel x.1 x.2)) ∧ Same (L2.upd H7 rl (.frz od (.dK (relK (rels wn))))) H6)
      ⟨[], upd_same, .nil, Same.upd hd⟩ (fun j H6 _ ⟨_, _, _, s⟩ => s _ _ rll) ?_ ?_
    · rintro j x H6 H6' hj ⟨zs, hz, hP, s6⟩ ⟨rfl, kk, vv, hkv, rfl⟩
      obtain ⟨y, hy, ek, ev⟩ := rels_at hkv
      obtain rfl : kk = Sum.inr y.1 := ek
      refine ⟨rfl, yesT ⟨_, rfl, _, rfl, wo, _, rfl, dgetS (s6 _ _ (wol od)) (by rfl), _, rfl, rl, _, rfl, dgetR (.inr ⟨_, s6 _ _ rll⟩) ev, few, fun q hq => ?_⟩⟩
      have zl : zs.length ≤ 3 := by
        have := Paired.len hP
        rw [List.length_map, List.length_take] at this
        have : (rels wn).length = 3 := rfl
        omega
      refine ⟨zs, Same.upd hq _ _ hz, line4' (by omega), zs ++ [.ref q], upd_same, ?_, samePut (Same.new s6 hq) hd⟩
      rw [take_more hy, List.map_append]
      exact snocIt (t := It.rel y.1 y.2) hz hq hP
    rintro H8 ⟨zs, hz, hP, s8⟩
    refine ⟨s8 _ _ rll, ?_⟩
    have el : (relK (rels wn)).length = (rels wn).length := relK_len _
    rw [el, List.take_length] at hP
    have s9 : Same H7 (L2.upd H8 rl (.dK (relK (rels wn)))) := same_unlock W.rl_ s8
    have z9 : L2.upd H8 rl (.dK (relK (rels wn))) d = some (.lst zs) := by rw [upd_ne drl]; exact hz
    have P9 : Paired (ItAt (L2.upd H8 rl (.dK (relK (rels wn))))) zs ((rels wn).map (fun x => It.rel x.1 x.2)) := ItAt.all (Tu.set (s8 _ _ rll) (by intro xs z; cases z)) hP
    generalize L2.upd H8 rl (.dK (relK (rels wn))) = H9 at s9 z9 P9 ⊢
    have W9 := W.same s9
    have zl : zs.length = 3 := (Paired.len P9).trans rfl
    clear s8 hz hP hd drl rll wol el s9 W
    -- the items of the rules
    have wol : ∀ od, L2.upd H9 ru (.frz od (.dK ruk)) wo = some (.dK [(Sum.inr ("relations" : Str), .ref rl), (Sum.inr ("rules" : Str), .ref ru)]) := fun od => by rw [upd_ne wr]; exact W9.wo_
    refine ⟨_, rfl, ru, _, W9.ru_, True.intro, fun od => ?_⟩
    refine ⟨_, rfl, wo, _, rfl, dgetS (wol od) (by rfl), ru, od, rfl, .inl ⟨_, upd_same, fun e he => ?_⟩⟩
    have rul : L2.upd H9 ru (.frz od (.dK ruk)) ru = some (.frz od (.dK ruk)) := upd_same
    have eru : e ≠ ru := by
      rintro rfl
      rw [rul] at he
      cases he
    have tul : Tu H9 (L2.upd H9 ru (.frz od (.dK ruk))) := Tu.set W9.ru_ (by intro xs z; cases z)
    have rvl := RvAt.all tul W9.rv
    have lrv : ruk.length = rvs.length := Paired.len W9.rv
    have lrf : rvs.length ≤ 3 := by
      have := Paired.len W9.rf
      rw [List.length_take] at this
      have : ruls.length = 3 := rfl
      omega
    have nrv : (rvs.map (·.1)).Nodup := by
      rw [rf_names W9.rf]
      exact ruls_nd n
    refine lc_it walk_keys (fun j H6 => ∃ ys : List V, H6 e = some (.lst ys) ∧ Paired (ItAt H6) ys ((rvs.take j).map (fun r => It.rul r.1 r.2.1 r.2.2.1 r.2.2.2)) ∧ Same (L2.upd H9 ru (.frz od (.dK ruk))) H6)
      ⟨[], upd_same, .nil, Same.upd he⟩ (fun j H6 _ ⟨_, _, _, s⟩ => s _ _ rul) ?_ ?_
    · rintro j x H6 H6' hj ⟨ys, hy6, hP, s6⟩ ⟨rfl, kk, vv, hkv, rfl⟩
      obtain ⟨r, hr', ek, _⟩ := Paired.get rvl hkv
      obtain rfl : kk = Sum.inr r.1 := ek
      have rm : r ∈ rvs := List.mem_of_getElem? hr'
      obtain ⟨r1, hv, bv, ra, m1, m2, m3⟩ := rul_look rvl (List.mem_map_of_mem rm)
      rw [lookup_nd nrv rm] at m1
      have m1' := Option.some.inj m1
      refine ⟨rfl, yesT ⟨_, rfl, few, fun q1 hq1 => ?_⟩⟩
      have s61 := Same.new (o := .tup [.str "rule", .str r.1]) s6 hq1
      refine ⟨_, rfl, wo, _, rfl, dgetS (s61 _ _ (wol od)) (by rfl), _, rfl, ru, _, rfl, dgetR (.inr ⟨_, s61 _ _ rul⟩) m2, ?_⟩
      refine ⟨q1, ra, _, _, rfl, rfl, SqT.of upd_same, SqT.of (s61 _ _ m3), List.cons_ne_nil _ _, few, (fun z => absurd z (List.cons_ne_nil _ _)), fun _ q hq => ?_⟩
      have yl : ys.length ≤ 3 := by
        have := Paired.len hP
        rw [List.length_map, List.length_take] at this
        omega
      have hy1 := Same.upd (o := .tup [.str "rule", .str r.1]) hq1 _ _ hy6
      have hP1 := ItAt.all (Tu.upd (o := .tup [.str "rule", .str r.1]) hq1) hP
      refine ⟨ys, Same.upd hq _ _ hy1, line4' (by omega), ys ++ [.ref q], upd_same, ?_, samePut (Same.new s61 hq) he⟩
      rw [take_more hr', List.map_append]
      have := snocIt (t := It.rul r.1 r1 hv bv) hy1 hq hP1
      rw [show [It.rul r.1 r1 hv bv] = [r].map (fun r => It.rul r.1 r.2.1 r.2.2.1 r.2.2.2) by rw [List.map_singleton, m1']] at this
      exact this
    rintro H10 ⟨ys, hy, hP, s10⟩
    refine ⟨s10 _ _ rul, ?_⟩
    rw [lrv, List.take_length] at hP
    have s11 : Same H9 (L2.upd H10 ru (.dK ruk)) := same_unlock W9.ru_ s10
    have y11 : L2.upd H10 ru (.dK ruk) e = some (.lst ys) := by rw [upd_ne eru]; exact hy
    have P11 : Paired (ItAt (L2.upd H10 ru (.dK ruk))) ys (rvs.map (fun r => It.rul r.1 r.2.1 r.2.2.1 r.2.2.2)) := ItAt.all (Tu.set (s10 _ _ rul) (by intro xs z; cases z)) hP
    generalize L2.upd H10 ru (.dK ruk) = H11 at s11 y11 P11 ⊢
    have yl : ys.length ≤ 3 := by
      have := Paired.len P11
      rw [List.length_map] at this
      omega
    refine ⟨d, e, zs, ys, rfl, rfl, s11 _ _ z9, y11, line4 (by omega), fun g hg => ?_⟩
    refine ⟨few, fun e0 he0 => ⟨few, fun dn hdn => ⟨few, fun li hli => ?_⟩⟩⟩
    have g14 := Same.upd (o := .lst [.ref dn]) hli _ _ (Same.upd (o := .tup [.str "denial", .str "d", .ref e0]) hdn _ _ (Same.upd (o := .tup []) he0 g _ upd_same) : _ = some (HO.lst (zs ++ ys)))
    refine ⟨g, li, _, _, rfl, rfl, g14, upd_same, line4 (by rw [List.length_append]; show zs.length + ys.length + 1 ≤ 1000; omega), fun il hil => ?_⟩
    have s12 : Same H11 (L2.upd (L2.upd (L2.upd (L2.upd (L2.upd H11 g (.lst (zs ++ ys))) e0 (.tup [])) dn (.tup [.str "denial", .str "d", .ref e0])) li (.lst [.ref dn])) il (.lst (zs ++ ys ++ [.ref dn]))) :=
      Same.new (Same.new (Same.new (Same.new (Same.upd hg) he0) hdn) hli) hil
    have il12 : L2.upd (L2.upd (L2.upd (L2.upd (L2.upd H11 g (.lst (zs ++ ys))) e0 (.tup [])) dn (.tup [.str "denial", .str "d", .ref e0])) li (.lst [.ref dn])) il (.lst (zs ++ ys ++ [.ref dn])) il = some (.lst (zs ++ ys ++ [.ref dn])) := upd_same
    have e012 : L2.upd (L2.upd (L2.upd (L2.upd (L2.upd H11 g (.lst (zs ++ ys))) e0 (.tup [])) dn (.tup [.str "denial", .str "d", .ref e0])) li (.lst [.ref dn])) il (.lst (zs ++ ys ++ [.ref dn])) e0 = some (.tup []) := Same.upd hil _ _ (Same.upd hli _ _ (Same.upd hdn _ _ upd_same))
    have dn12 : L2.upd (L2.upd (L2.upd (L2.upd (L2.upd H11 g (.lst (zs ++ ys))) e0 (.tup [])) dn (.tup [.str "denial", .str "d", .ref e0])) li (.lst [.ref dn])) il (.lst (zs ++ ys ++ [.ref dn])) dn = some (.tup [.str "denial", .str "d", .ref e0]) := Same.upd hil _ _ (Same.upd hli _ _ upd_same)
    have il_st : il ≠ st := ((((W9.same s11).S.new hg).new he0).new hdn |>.new hli).no hil
    generalize L2.upd (L2.upd (L2.upd (L2.upd (L2.upd H11 g (.lst (zs ++ ys))) e0 (.tup [])) dn (.tup [.str "denial", .str "d", .ref e0])) li (.lst [.ref dn])) il (.lst (zs ++ ys ++ [.ref dn])) = H12 at s12 il12 e012 dn12 ⊢
    have W12 := (W9.same s11).same s12
    have P12 : Paired (ItAt H12) (zs ++ ys ++ [.ref dn]) (itsOf wn rvs (.ref e0)) := Paired.append (Paired.append (ItAt.all (Tu.same (L2.Same.trans s11 s12)) P9) (ItAt.all (Tu.same s12) P11)) (.cons ⟨dn, rfl, dn12⟩ .nil)
    generalize zs ++ ys ++ [.ref dn] = ivs at il12 P12
    have fd12 : FixT H12 4 (.ref e0) := fixTup e012 (fun _ h => by cases h) (by show 0 ≤ 100; decide)
    clear W9 g14 hg he0 hdn hli hil s11 s12 y11 P11 z9 P9 yl zl e012 dn12 s10 hy hP he eru rul tul rvl wol
    -- the state
    refine ⟨_, rfl, fun p dx hp hdx hne => ?_⟩
    have sm : Same H12 (L2.upd (L2.upd H12 dx (.own p)) p (.ins C dx [])) := fun b o h => by
      rw [upd_ne (ne_of_none h hp), upd_ne (ne_of_none h hdx)]
      exact h
    refine ⟨p, dx, il, ivs, itsOf wn rvs (.ref e0), rfl, upd_same, sm _ _ il12, ItAt.all (Tu.same sm) P12, its_once W12.rf, its_len W12.rf, fun H13 F13 e13 => ⟨rfl, ?_⟩⟩
    have s13 : Same H12 H13 := fun b o h => e13 _ _ (sm _ _ h) (ne_of_none h hp)
    have W13 := W12.same s13
    -- the widths
    refine ⟨fun σ H' => ∃ wd : Addr, σ = [some (.ref a), some (.ref st), some (.ref wo), some (.ref xa), some (.ref ch), v5, none, some (.ref il), some (.ref p), some (.ref wd), none, none, none, none] ∧ W2 C H' st c p il wd wn n rvs (.ref e0) ivs, ?_, ?_⟩
    · refine ⟨_, rfl, wo, rl, ru, rels wn, ruk, ruls.take n, rfl, ⟨W13.wo_, W13.rl_, W13.ru_, rv_rf W13.rv W13.rf⟩, ruls_nd n, by rw [List.length_take]; show min n 3 ≤ 10; omega, by show 3 ≤ 10; decide, fun wd H14 hwd s14 => ?_⟩
      rw [ws_merge W13.n3] at hwd
      have W14 := W13.same s14
      have s1314 := L2.Same.trans s13 s14
      exact ⟨wd, rfl, W14.S, F13.same s14, s1314 _ _ il12, il_st, ItAt.all (Tu.same s1314) P12, W14.rf, fd12.tu (Tu.same s1314), hwd, W14.w1, W14.w4, W14.n3⟩
    clear W13 W12 s13 sm e13 F13 P12 il12 fd12 hp hdx hne il_st lrv lrf nrv
    rintro σ H15 ⟨wd, rfl, W⟩
    generalize V.ref e0 = dv at W
    have σ9 := fun v5 v6 v10 v11 v12 v13 : Option V => [some (.ref a), some (.ref st), some (.ref wo), some (.ref xa), some (.ref ch), v5, v6, some (.ref il), some (.ref p), some (.ref wd), v10, v11, v12, v13]
    clear σ9
    -- the columns
    refine ⟨fun σ H' => (∃ v5 v6 v10 v11 v12 v13 : Option V, σ = [some (.ref a), some (.ref st), some (.ref wo), some (.ref xa), some (.ref ch), v5, v6, some (.ref il), some (.ref p), some (.ref wd), v10, v11, v12, v13]) ∧ W2 C H' st c p il wd wn n rvs dv ivs, ?_, ?_⟩
    · refine ⟨few, fun nl hnl => ⟨nl, rfl, ⟨_, SqL.of upd_same⟩, ?_⟩⟩
      refine for_list (K := K) (a := nl) (xs := [.str "p", .str "q", .str "r", .str "u", .str "v", .str "w", .str "none", .str "d", .str "n0", .str "e"])
        (fun i σ H' => (∃ v6 : Option V, σ = [some (.ref a), some (.ref st), some (.ref wo), some (.ref xa), some (.ref ch), v5, v6, some (.ref il), some (.ref p), some (.ref wd), none, none, none, none]) ∧ W2 C H' st c p il wd wn n rvs dv ivs ∧ H' nl = some (.lst [.str "p", .str "q", .str "r", .str "u", .str "v", .str "w", .str "none", .str "d", .str "n0", .str "e"]))
        ⟨⟨_, rfl⟩, W.same (Same.upd hnl), upd_same⟩ (fun i σ H' _ q => SqL.of q.2.2) ?_ ?_
      · rintro i x σ H1 hi ⟨⟨v6, rfl⟩, W1, hl⟩
        obtain ⟨nm, rfl⟩ := isStr_ok (List.all_eq_true.mp (show ([.str "p", .str "q", .str "r", .str "u", .str "v", .str "w", .str "none", .str "d", .str "n0", .str "e"] : List V).all isStr = true by rfl) x (List.mem_of_getElem? hi))
        refine ⟨_, rfl, _, rfl, (rels wn, ruls.take n), p, nm, rfl, W1.st, fun H2 s2 => ?_⟩
        refine ⟨_, rfl, wd, rfl, .inl ⟨_, .inl (s2 _ _ W1.wd_)⟩, _, rfl, _, DGet.k (k := Sum.inr nm) (s2 _ _ W1.wd_), ?_⟩
        refine ⟨_, _, rfl, ⟨?_, isF_col _⟩, fun H3 s3 => ⟨_, rfl, iteF ?_⟩⟩
        · rw [col_get]
          show colV (cols (rels wn) (ruls.take n) nm) = _
          rw [W1.co]
        · exact ⟨⟨_, rfl⟩, W1.same (L2.Same.trans s2 s3), s3 _ _ (s2 _ _ hl)⟩
      · rintro σ H1 ⟨⟨v6, rfl⟩, W1, _⟩
        exact ⟨⟨_, _, _, _, _, _, rfl⟩, W1⟩
    rintro σ H16 ⟨⟨v5', v6', v10', v11', v12', v13', rfl⟩, W⟩
    -- the three bodies
    refine ⟨fun σ H' => (∃ v5 v6 v10 v11 v12 v13 : Option V, σ = [some (.ref a), some (.ref st), some (.ref wo), some (.ref xa), some (.ref ch), v5, v6, some (.ref il), some (.ref p), some (.ref wd), v10, v11, v12, v13]) ∧ W2 C H' st c p il wd wn n rvs dv ivs, ?_, ?_⟩
    · refine ⟨_, rfl, by decide, by decide, ?_⟩
      refine for_range (lo := 0) (n := (3 : Int).toNat) (fun i σ H' => (∃ v5 v6 v10 v11 v12 v13 : Option V, σ = [some (.ref a), some (.ref st), some (.ref wo), some (.ref xa), some (.ref ch), v5, v6, some (.ref il), some (.ref p), some (.ref wd), v10, v11, v12, v13]) ∧ W2 C H' st c p il wd wn n rvs dv ivs)
        ⟨⟨_, _, _, _, _, _, rfl⟩, W⟩ ?_ (fun σ H' q => q)
      rintro i σ H1 hi ⟨⟨v5, v6, v10, v11, v12, v13, rfl⟩, W1⟩
      refine ⟨_, rfl, _, rfl, st, c, wd, wsOf n wn, rfl, W1.S, W1.wd, fun bv ls H2 hb S2 e2 => ?_⟩
      have W2' := W1.fr S2 e2
      refine ⟨_, rfl, _, rfl, wd, bv, ls, wsOf n wn, rfl, W2'.wd, hb, fun rv H3 hres s3 => ?_⟩
      obtain ⟨ra, bl, pv, rfl, hra, hpv, hbl, hlen⟩ := hres
      have W3 := W2'.same s3
      have hb3 := hb.tu (Tu.same s3)
      refine ⟨ra, _, rfl, SqT.of hra, rfl, _, _, rfl, _, _, rfl, rfl, ?_⟩
      refine ⟨_, rfl, bl, _, rfl, .inl ⟨SqL.of hbl, fun t ht => ⟨few, fun q hq => ?_⟩⟩⟩
      have s4 : Same H3 (L2.upd (L2.upd H3 t (.tup ((bodyProb (wcol (wsOf n wn)) [] ls).2.map V.str))) q (.tup [.str "told", .ref t])) := Same.new (Same.upd ht) hq
      have t4 : L2.upd (L2.upd H3 t (.tup ((bodyProb (wcol (wsOf n wn)) [] ls).2.map V.str))) q (.tup [.str "told", .ref t]) t = some (.tup ((bodyProb (wcol (wsOf n wn)) [] ls).2.map V.str)) := Same.upd hq _ _ upd_same
      have q4 : L2.upd (L2.upd H3 t (.tup ((bodyProb (wcol (wsOf n wn)) [] ls).2.map V.str))) q (.tup [.str "told", .ref t]) q = some (.tup [.str "told", .ref t]) := upd_same
      generalize L2.upd (L2.upd H3 t (.tup ((bodyProb (wcol (wsOf n wn)) [] ls).2.map V.str))) q (.tup [.str "told", .ref t]) = H4 at s4 t4 q4 ⊢
      have W4 := W3.same s4
      have hb4 := hb3.tu (Tu.same s4)
      -- what is due of the body
      refine ⟨fun σ H' => (∃ (v5 v6 v11 v12 : Option V) (dv' : V), σ = [some (.ref a), some (.ref st), some (.ref wo), some (.ref xa), some (.ref ch), v5, v6, some (.ref il), some (.ref p), some (.ref wd), some bv, v11, v12, some dv'] ∧ AnsAt H' dv' (toldB (wcol (wsOf n wn)) ls)) ∧ W2 C H' st c p il wd wn n rvs dv ivs ∧ BodyAt H' bv ls, ?_, ?_⟩
      · unfold toldB
        cases hp : bodyProb (wcol (wsOf n wn)) [] ls with
        | mk o xs =>
          rw [hp] at hpv t4
          cases o with
          | none =>
            obtain rfl : pv = .non := hpv
            exact ⟨_, rfl, _, rfl, iteF ⟨⟨_, _, _, _, _, rfl, q, t, rfl, q4, t4⟩, W4, hb4⟩⟩
          | some pr =>
            obtain ⟨pa, rfl, hpa⟩ := hpv
            refine ⟨_, rfl, _, rfl, iteT ⟨_, rfl, few, fun g hg => ⟨⟨_, _, _, _, _, rfl, g, pa, rfl, upd_same, Same.upd hg _ _ (s4 _ _ hpa)⟩, W4.same (Same.upd hg), hb4.tu (Tu.upd hg)⟩⟩⟩
      have lenB : ∀ xs, toldB (wcol (wsOf n wn)) ls = .tb xs → xs.length ≤ 100000 := by
        intro xs e
        unfold toldB at e
        cases hp : bodyProb (wcol (wsOf n wn)) [] ls with
        | mk o ys =>
          rw [hp] at e hlen
          cases o with
          | none =>
            cases e
            exact Nat.le_trans hlen (by decide)
          | some pr => cases e
      clear hra hpv hbl hlen t4 q4 s4 W4 hb4 W3 hb3 s3 W2' S2 e2 W1
      rintro σ H5 ⟨⟨v5, v6, v11, v12, d1, rfl, hd1⟩, W5, hb5⟩
      refine ⟨_, rfl, _, rfl, (rels wn, ruls.take n), true, p, "", bv, ls, rfl, W5.st, hb5, fun u H6 hu6 s6 => ?_⟩
      refine ⟨_, rfl, u, d1, rfl, ?_, fun H7 s7 => ⟨_, rfl, iteF ?_⟩⟩
      · have hu' : AnsAt H6 u (toldB (cols (rels wn) (ruls.take n)) ls) := hu6
        rw [W5.co] at hu'
        exact ans_same hu' (hd1.same s6) lenB
      have s57 := L2.Same.trans s6 s7
      have W7 := W5.same s57
      have hb7 := hb5.tu (Tu.same s57)
      have hd7 := hd1.same s57
      clear hu6 s6 s7 s57 hd1 hb5 W5 lenB
      -- the denial's name
      refine ⟨few, fun nl hnl => ?_⟩
      have W8 := W7.same (Same.upd (o := .lst [.str "d", .str "e", .str "p", .str "n0", .str "q", .str "u"]) hnl)
      refine ⟨_, rfl, st, c, _, rfl, by decide, by decide, W8.S, fun v H9 v0 v6' S9 e9 => ?_⟩
      have nl9 := e9 _ _ upd_same (W7.S.no hnl)
      have W9 := W8.fr S9 e9
      have hb9 := (hb7.tu (Tu.upd hnl)).tu (e9.tu W8.S)
      have hd9 := (hd7.same (Same.upd hnl)).fr W8.S e9
      obtain ⟨x, hx, hat⟩ := at_lt (xs := [.str "d", .str "e", .str "p", .str "n0", .str "q", .str "u"]) v0 (by show v < 6; exact v6')
      obtain ⟨nm, rfl⟩ := isStr_ok (List.all_eq_true.mp (show ([.str "d", .str "e", .str "p", .str "n0", .str "q", .str "u"] : List V).all isStr = true by rfl) x hx)
      refine ⟨nl, _, _, _, rfl, rfl, SqL.of nl9, hat, ?_⟩
      clear nl9 e9 S9 W8 hnl hat hx W7 hb7 hd7
      -- what is due of the denial
      refine ⟨fun σ H' => (∃ (v5 v11 v12 : Option V) (dv' : V), σ = [some (.ref a), some (.ref st), some (.ref wo), some (.ref xa), some (.ref ch), v5, some (.str nm), some (.ref il), some (.ref p), some (.ref wd), some bv, v11, v12, some dv'] ∧ AnsAt H' dv' (toldE (wcol (wsOf n wn)) ls)) ∧ W2 C H' st c p il wd wn n rvs dv ivs ∧ BodyAt H' bv ls, ?_, ?_⟩
      · unfold toldE
        unfold toldB at hd9
        cases hp : bodyProb (wcol (wsOf n wn)) [] ls with
        | mk o xs =>
          rw [hp] at hd9
          cases o with
          | none =>
            obtain ⟨b, t, rfl, hb1, _⟩ := hd9
            exact ⟨_, rfl, b, _, _, _, rfl, rfl, SqT.of hb1, at0, rfl, _, rfl, ifT (by decide +kernel) ⟨few, fun g hg => ⟨⟨_, _, _, _, rfl, g, rfl, upd_same⟩, W9.same (Same.upd hg), hb9.tu (Tu.upd hg)⟩⟩⟩
          | some pr =>
            obtain ⟨b, t, rfl, hb1, hb2⟩ := hd9
            exact ⟨_, rfl, b, _, _, _, rfl, rfl, SqT.of hb1, at0, rfl, _, rfl, ifF (by decide +kernel) ⟨⟨_, _, _, _, rfl, b, t, rfl, hb1, hb2⟩, W9, hb9⟩⟩
      clear hd9 hb9 W9
      rintro σ H10 ⟨⟨v5, v11, v12, d2, rfl, hd2⟩, W10, hb10⟩
      refine ⟨fun σ H' => (∃ (v5 v11 v12 : Option V) (dv' : V), σ = [some (.ref a), some (.ref st), some (.ref wo), some (.ref xa), some (.ref ch), v5, some (.str nm), some (.ref il), some (.ref p), some (.ref wd), some bv, v11, v12, some dv'] ∧ AnsAt H' dv' (toldD (wcol (wsOf n wn)) ["d"] nm ls)) ∧ W2 C H' st c p il wd wn n rvs dv ivs ∧ BodyAt H' bv ls, ?_, ?_⟩
      · unfold toldD
        by_cases hn : nm = "d"
        · rw [if_pos (List.mem_singleton.mpr hn)]
          refine ⟨_, rfl, rfl, _, rfl, ifT (by rw [hn]; decide +kernel) ⟨few, fun g hg => ⟨few, fun g2 hg2 => ?_⟩⟩⟩
          have s2 := Same.new (o := .tup [.str "refused", .ref g]) (Same.upd (o := .tup [.str "exists", .str "denial", .str "d"]) hg) hg2
          refine ⟨⟨_, _, _, _, rfl, g2, g, rfl, upd_same, ?_⟩, W10.same s2, hb10.tu (Tu.same s2)⟩
          rw [hn]
          exact Same.upd hg2 _ _ upd_same
        · rw [if_neg (fun z => hn (List.mem_singleton.mp z))]
          exact ⟨_, rfl, rfl, _, rfl, ifF (by rw [dec_str2]; exact decide_eq_false hn) ⟨⟨_, _, _, _, rfl, hd2⟩, W10, hb10⟩⟩
      clear hd2 hb10 W10
      rintro σ H11 ⟨⟨v5, v11, v12, d3, rfl, hd3⟩, W11, hb11⟩
      refine ⟨_, rfl, _, rfl, _, rfl, (rels wn, ruls.take n), false, p, nm, bv, ls, rfl, W11.st, hb11, fun u H12 hu12 s12 => ?_⟩
      refine ⟨_, rfl, u, d3, rfl, ?_, fun H13 s13 => ⟨_, rfl, iteF ?_⟩⟩
      · have hu' : AnsAt H12 u (toldD (cols (rels wn) (ruls.take n)) ["d"] nm ls) := hu12
        rw [W11.co] at hu'
        refine ans_same hu' (hd3.same s12) fun xs e => ?_
        unfold toldD at e
        split at e
        · cases e
        · split at e <;> cases e
      exact ⟨⟨_, _, _, _, _, _, rfl⟩, W11.same (L2.Same.trans s12 s13)⟩
    rintro σ H17 ⟨⟨v5, v6, v10, v11, v12, v13, rfl⟩, W⟩
    -- the two listings
    obtain ⟨dx, dr, df, du, dd, ruk', ns', hp, _⟩ := id W.F
    refine ⟨_, rfl, p, dx, _, rfl, hp, by rfl, p, _, rfl, W.F, its_len W.rf, fun a1 xs1 ys us ds H18 _ h1 srt1 P1 s18 => ?_⟩
    have W18 := W.same s18
    refine ⟨_, rfl, fun p2 dx2 hp2 hdx2 hne2 => ?_⟩
    have sm : Same H18 (L2.upd (L2.upd H18 dx2 (.own p2)) p2 (.ins C dx2 [])) := fun b o h => by
      rw [upd_ne (ne_of_none h hp2), upd_ne (ne_of_none h hdx2)]
      exact h
    refine ⟨p2, dx2, il, ivs, itsOf wn rvs dv, rfl, upd_same, sm _ _ W18.il_, ItAt.all (Tu.same sm) W18.it, its_once W18.rf, its_len W18.rf, fun H19 F19 e19 => ⟨rfl, ?_⟩⟩
    have s19 : Same H18 H19 := fun b o h => e19 _ _ (sm _ _ h) (ne_of_none h hp2)
    have W19 := W18.same s19
    obtain ⟨dx3, dr3, df3, du3, dd3, ruk3, ns3, hp3, _⟩ := id F19
    refine ⟨p2, dx3, _, rfl, hp3, by rfl, p2, _, rfl, F19, its_len W19.rf, fun a2 xs2 ys2 us2 ds2 H20 _ h2 srt2 P2 s20 => ?_⟩
    obtain ⟨rfl, rfl, rfl⟩ := srt1.one srt2
    have W20 := W19.same s20
    have s120 := L2.Same.trans s19 s20
    refine ⟨_, _, rfl, ?_, fun H21 _ => k H21⟩
    have P1' := ItAt.all (Tu.same s120) P1
    refine sameLst (s120 _ _ h1) h2 (same_items P1' P2 (out_fix ?_ ?_)) ?_
    · rw [its_rul]
      exact fix_rul W20.rf
    · rw [its_den]
      intro d hd
      rw [List.mem_singleton] at hd
      subst hd
      exact W20.df
    · have e1 := Paired.len P1
      have l1 := srt1.yp.length_eq
      have l2 := srt1.up.length_eq
      have l3 := srt1.dp.length_eq
      have b1 := its_len (dv := dv) (w := wn) W.rf
      have b2 := relOf_len (itsOf wn rvs dv)
      have b3 := rulOf_len (itsOf wn rvs dv)
      have b4 := denOf_len (itsOf wn rvs dv)
      unfold outOf at e1
      rw [List.length_append, List.length_append, List.length_map, List.length_map, List.length_map] at e1
      rw [List.length_map] at l1 l2 l3
      omega
end
end K21

set_option Elab.async false
set_option linter.all false
set_option maxRecDepth 100000
set_option maxHeartbeats 4000000
namespace K21
open PySem PySem.Spec PyProof.Rows L2
theorem all_mk {P : Program} {w : World} {K : PySem.W.Frag} {h : Heap} {mg : Str → Option Value} {fa : Addr} (X : K.In h) (G : h.Ns mainGlobals mg) (hfa : mg "law" = some (.ref fa)) (htop : (P.main.scope.names.lookup ("super" : Str)).isSome = false)
    {f_columns f_atom f_terms f_vars f_lit f_body f_denial f_next f_same f_worth f_vari f_term f_settled f_literal f_binds f_lbody f_loose f_litprob f_bodyprob f_each f_widths f_told f_law f_put f_tidy f_items f_init C R RE rk dT e0 fI cc cda N : Addr} {oc_columns kV_columns dc_columns pm_columns cd_columns ct_columns oc_atom kV_atom dc_atom pm_atom cd_atom ct_atom oc_terms kV_terms dc_terms pm_terms cd_terms ct_terms oc_vars kV_vars dc_vars pm_vars cd_vars ct_vars oc_lit kV_lit dc_lit pm_lit cd_lit ct_lit oc_body kV_body dc_body pm_body cd_body ct_body oc_denial kV_denial dc_denial pm_denial cd_denial ct_denial oc_next kV_next dc_next pm_next cd_next ct_next oc_same kV_same dc_same pm_same cd_same ct_same oc_worth kV_worth dc_worth pm_worth cd_worth ct_worth oc_vari kV_vari dc_vari pm_vari cd_vari ct_vari oc_term kV_term dc_term pm_term cd_term ct_term oc_settled kV_settled dc_settled pm_settled cd_settled ct_settled oc_literal kV_literal dc_literal pm_literal cd_literal ct_literal oc_binds kV_binds dc_binds pm_binds cd_binds ct_binds oc_lbody kV_lbody dc_lbody pm_lbody cd_lbody ct_lbody oc_loose kV_loose dc_loose pm_loose cd_loose ct_loose oc_litprob kV_litprob dc_litprob pm_litprob cd_litprob ct_litprob oc_bodyprob kV_bodyprob dc_bodyprob pm_bodyprob cd_bodyprob ct_bodyprob oc_each kV_each dc_each pm_each cd_each ct_each oc_widths kV_widths dc_widths pm_widths cd_widths ct_widths oc_told kV_told dc_told pm_told cd_told ct_told oc_law kV_law dc_law pm_law cd_law ct_law oc_put kV_put dc_put pm_put cd_put ct_put oc_tidy kV_tidy dc_tidy pm_tidy cd_tidy ct_tidy oc_items kV_items dc_items pm_items cd_items ct_items oc_init kV_init dc_init pm_init cd_init ct_init oc_dT oc_rI dc_rI pm_rI ct_rI oc_cd oc_cc : Value} {od_columns an_columns od_atom an_atom od_terms an_terms od_vars an_vars od_lit an_lit od_body an_body od_denial an_denial od_next an_next od_same an_same od_worth an_worth od_vari an_vari od_term an_term od_settled an_settled od_literal an_literal od_binds an_binds od_lbody an_lbody od_loose an_loose od_litprob an_litprob od_bodyprob an_bodyprob od_each an_each od_widths an_widths od_told an_told od_law an_law od_put an_put od_tidy an_tidy od_items an_items od_init an_init od_dT dd od_rI an_rI od_cd od_cc : Option Addr} {sl_columns sl_atom sl_terms sl_vars sl_lit sl_body sl_denial sl_next sl_same sl_worth sl_vari sl_term sl_settled sl_literal sl_binds sl_lbody sl_loose sl_litprob sl_bodyprob sl_each sl_widths sl_told sl_law sl_put sl_tidy sl_items sl_init sl_dT sl_rI sl_cd sl_cc : Array (Option Value)} {n_dT : Nat}
    {nm q file : Str} {tf : Tok} {vs_cd : Array Value} {bs bm sub : List Value} {sn : List Str} {ab : Bool} {col : Option Bool} {m0 m1 m2 m3 m5 : Option Value} (hbm : PySem.HandSPX.refsVE bm = true)
    (a_columns : PySem.W.nsIn K mainGlobals "columns" = some (some (.ref f_columns)))
    (l_columns : K.lookup f_columns = some ⟨oc_columns, od_columns, .func (PySem.W.fnOf "columns" "columns" (defArgs sColumns) (defBody sColumns) (defScope sColumns) .none kV_columns dc_columns pm_columns an_columns cd_columns ct_columns), sl_columns⟩)
    (c_columns : PySem.W.codeIn K cd_columns "columns" = true)
    (k_columns : PySem.W.keepIn K (.ref f_columns) = true)
    (a_atom : PySem.W.nsIn K mainGlobals "check_atom" = some (some (.ref f_atom)))
    (l_atom : K.lookup f_atom = some ⟨oc_atom, od_atom, .func (PySem.W.fnOf "check_atom" "check_atom" (defArgs sAtom) (defBody sAtom) (defScope sAtom) .none kV_atom dc_atom pm_atom an_atom cd_atom ct_atom), sl_atom⟩)
    (c_atom : PySem.W.codeIn K cd_atom "check_atom" = true)
    (k_atom : PySem.W.keepIn K (.ref f_atom) = true)
    (a_terms : PySem.W.nsIn K mainGlobals "check_terms" = some (some (.ref f_terms)))
    (l_terms : K.lookup f_terms = some ⟨oc_terms, od_terms, .func (PySem.W.fnOf "check_terms" "check_terms" (defArgs sTerms) (defBody sTerms) (defScope sTerms) .none kV_terms dc_terms pm_terms an_terms cd_terms ct_terms), sl_terms⟩)
    (c_terms : PySem.W.codeIn K cd_terms "check_terms" = true)
    (k_terms : PySem.W.keepIn K (.ref f_terms) = true)
    (a_vars : PySem.W.nsIn K mainGlobals "variables_of" = some (some (.ref f_vars)))
    (l_vars : K.lookup f_vars = some ⟨oc_vars, od_vars, .func (PySem.W.fnOf "variables_of" "variables_of" (defArgs sVars) (defBody sVars) (defScope sVars) .none kV_vars dc_vars pm_vars an_vars cd_vars ct_vars), sl_vars⟩)
    (c_vars : PySem.W.codeIn K cd_vars "variables_of" = true)
    (k_vars : PySem.W.keepIn K (.ref f_vars) = true)
    (a_lit : PySem.W.nsIn K mainGlobals "check_literal" = some (some (.ref f_lit)))
    (l_lit : K.lookup f_lit = some ⟨oc_lit, od_lit, .func (PySem.W.fnOf "check_literal" "check_literal" (defArgs sLit) (defBody sLit) (defScope sLit) .none kV_lit dc_lit pm_lit an_lit cd_lit ct_lit), sl_lit⟩)
    (c_lit : PySem.W.codeIn K cd_lit "check_literal" = true)
    (k_lit : PySem.W.keepIn K (.ref f_lit) = true)
    (a_body : PySem.W.nsIn K mainGlobals "check_body" = some (some (.ref f_body)))
    (l_body : K.lookup f_body = some ⟨oc_body, od_body, .func (PySem.W.fnOf "check_body" "check_body" (defArgs sBody) (defBody sBody) (defScope sBody) .none kV_body dc_body pm_body an_body cd_body ct_body), sl_body⟩)
    (c_body : PySem.W.codeIn K cd_body "check_body" = true)
    (k_body : PySem.W.keepIn K (.ref f_body) = true)
    (a_denial : PySem.W.nsIn K mainGlobals "check_denial" = some (some (.ref f_denial)))
    (l_denial : K.lookup f_denial = some ⟨oc_denial, od_denial, .func (PySem.W.fnOf "check_denial" "check_denial" (defArgs sDenial) (defBody sDenial) (defScope sDenial) .none kV_denial dc_denial pm_denial an_denial cd_denial ct_denial), sl_denial⟩)
    (c_denial : PySem.W.codeIn K cd_denial "check_denial" = true)
    (k_denial : PySem.W.keepIn K (.ref f_denial) = true)
    (a_next : PySem.W.nsIn K mainGlobals "_law_next" = some (some (.ref f_next)))
    (l_next : K.lookup f_next = some ⟨oc_next, od_next, .func (PySem.W.fnOf "_law_next" "_law_next" (defArgs sNext) (defBody sNext) (defScope sNext) .none kV_next dc_next pm_next an_next cd_next ct_next), sl_next⟩)
    (c_next : PySem.W.codeIn K cd_next "_law_next" = true)
    (k_next : PySem.W.keepIn K (.ref f_next) = true)
    (a_same : PySem.W.nsIn K mainGlobals "_law_same" = some (some (.ref f_same)))
    (l_same : K.lookup f_same = some ⟨oc_same, od_same, .func (PySem.W.fnOf "_law_same" "_law_same" (defArgs sSame) (defBody sSame) (defScope sSame) .none kV_same dc_same pm_same an_same cd_same ct_same), sl_same⟩)
    (c_same : PySem.W.codeIn K cd_same "_law_same" = true)
    (k_same : PySem.W.keepIn K (.ref f_same) = true)
    (a_worth : PySem.W.nsIn K mainGlobals "_law_worth" = some (some (.ref f_worth)))
    (l_worth : K.lookup f_worth = some ⟨oc_worth, od_worth, .func (PySem.W.fnOf "_law_worth" "_law_worth" (defArgs sWorth) (defBody sWorth) (defScope sWorth) .none kV_worth dc_worth pm_worth an_worth cd_worth ct_worth), sl_worth⟩)
    (c_worth : PySem.W.codeIn K cd_worth "_law_worth" = true)
    (k_worth : PySem.W.keepIn K (.ref f_worth) = true)
    (a_vari : PySem.W.nsIn K mainGlobals "_law_variable" = some (some (.ref f_vari)))
    (l_vari : K.lookup f_vari = some ⟨oc_vari, od_vari, .func (PySem.W.fnOf "_law_variable" "_law_variable" (defArgs sVariable) (defBody sVariable) (defScope sVariable) .none kV_vari dc_vari pm_vari an_vari cd_vari ct_vari), sl_vari⟩)
    (c_vari : PySem.W.codeIn K cd_vari "_law_variable" = true)
    (k_vari : PySem.W.keepIn K (.ref f_vari) = true)
    (a_term : PySem.W.nsIn K mainGlobals "_law_term" = some (some (.ref f_term)))
    (l_term : K.lookup f_term = some ⟨oc_term, od_term, .func (PySem.W.fnOf "_law_term" "_law_term" (defArgs sTerm) (defBody sTerm) (defScope sTerm) .none kV_term dc_term pm_term an_term cd_term ct_term), sl_term⟩)
    (c_term : PySem.W.codeIn K cd_term "_law_term" = true)
    (k_term : PySem.W.keepIn K (.ref f_term) = true)
    (a_settled : PySem.W.nsIn K mainGlobals "_law_settled" = some (some (.ref f_settled)))
    (l_settled : K.lookup f_settled = some ⟨oc_settled, od_settled, .func (PySem.W.fnOf "_law_settled" "_law_settled" (defArgs sSettled) (defBody sSettled) (defScope sSettled) .none kV_settled dc_settled pm_settled an_settled cd_settled ct_settled), sl_settled⟩)
    (c_settled : PySem.W.codeIn K cd_settled "_law_settled" = true)
    (k_settled : PySem.W.keepIn K (.ref f_settled) = true)
    (a_literal : PySem.W.nsIn K mainGlobals "_law_literal" = some (some (.ref f_literal)))
    (l_literal : K.lookup f_literal = some ⟨oc_literal, od_literal, .func (PySem.W.fnOf "_law_literal" "_law_literal" (defArgs sLiteral) (defBody sLiteral) (defScope sLiteral) .none kV_literal dc_literal pm_literal an_literal cd_literal ct_literal), sl_literal⟩)
    (c_literal : PySem.W.codeIn K cd_literal "_law_literal" = true)
    (k_literal : PySem.W.keepIn K (.ref f_literal) = true)
    (a_binds : PySem.W.nsIn K mainGlobals "_law_binds" = some (some (.ref f_binds)))
    (l_binds : K.lookup f_binds = some ⟨oc_binds, od_binds, .func (PySem.W.fnOf "_law_binds" "_law_binds" (defArgs sBinds) (defBody sBinds) (defScope sBinds) .none kV_binds dc_binds pm_binds an_binds cd_binds ct_binds), sl_binds⟩)
    (c_binds : PySem.W.codeIn K cd_binds "_law_binds" = true)
    (k_binds : PySem.W.keepIn K (.ref f_binds) = true)
    (a_lbody : PySem.W.nsIn K mainGlobals "_law_body" = some (some (.ref f_lbody)))
    (l_lbody : K.lookup f_lbody = some ⟨oc_lbody, od_lbody, .func (PySem.W.fnOf "_law_body" "_law_body" (defArgs sLBody) (defBody sLBody) (defScope sLBody) .none kV_lbody dc_lbody pm_lbody an_lbody cd_lbody ct_lbody), sl_lbody⟩)
    (c_lbody : PySem.W.codeIn K cd_lbody "_law_body" = true)
    (k_lbody : PySem.W.keepIn K (.ref f_lbody) = true)
    (a_loose : PySem.W.nsIn K mainGlobals "_law_loose" = some (some (.ref f_loose)))
    (l_loose : K.lookup f_loose = some ⟨oc_loose, od_loose, .func (PySem.W.fnOf "_law_loose" "_law_loose" (defArgs sLoose) (defBody sLoose) (defScope sLoose) .none kV_loose dc_loose pm_loose an_loose cd_loose ct_loose), sl_loose⟩)
    (c_loose : PySem.W.codeIn K cd_loose "_law_loose" = true)
    (k_loose : PySem.W.keepIn K (.ref f_loose) = true)
    (a_litprob : PySem.W.nsIn K mainGlobals "_law_literal_problem" = some (some (.ref f_litprob)))
    (l_litprob : K.lookup f_litprob = some ⟨oc_litprob, od_litprob, .func (PySem.W.fnOf "_law_literal_problem" "_law_literal_problem" (defArgs sLitProb) (defBody sLitProb) (defScope sLitProb) .none kV_litprob dc_litprob pm_litprob an_litprob cd_litprob ct_litprob), sl_litprob⟩)
    (c_litprob : PySem.W.codeIn K cd_litprob "_law_literal_problem" = true)
    (k_litprob : PySem.W.keepIn K (.ref f_litprob) = true)
    (a_bodyprob : PySem.W.nsIn K mainGlobals "_law_body_problem" = some (some (.ref f_bodyprob)))
    (l_bodyprob : K.lookup f_bodyprob = some ⟨oc_bodyprob, od_bodyprob, .func (PySem.W.fnOf "_law_body_problem" "_law_body_problem" (defArgs sBodyProb) (defBody sBodyProb) (defScope sBodyProb) .none kV_bodyprob dc_bodyprob pm_bodyprob an_bodyprob cd_bodyprob ct_bodyprob), sl_bodyprob⟩)
    (c_bodyprob : PySem.W.codeIn K cd_bodyprob "_law_body_problem" = true)
    (k_bodyprob : PySem.W.keepIn K (.ref f_bodyprob) = true)
    (a_each : PySem.W.nsIn K mainGlobals "_law_each_once" = some (some (.ref f_each)))
    (l_each : K.lookup f_each = some ⟨oc_each, od_each, .func (PySem.W.fnOf "_law_each_once" "_law_each_once" (defArgs sEach) (defBody sEach) (defScope sEach) .none kV_each dc_each pm_each an_each cd_each ct_each), sl_each⟩)
    (c_each : PySem.W.codeIn K cd_each "_law_each_once" = true)
    (k_each : PySem.W.keepIn K (.ref f_each) = true)
    (a_widths : PySem.W.nsIn K mainGlobals "_law_widths" = some (some (.ref f_widths)))
    (l_widths : K.lookup f_widths = some ⟨oc_widths, od_widths, .func (PySem.W.fnOf "_law_widths" "_law_widths" (defArgs sWidths) (defBody sWidths) (defScope sWidths) .none kV_widths dc_widths pm_widths an_widths cd_widths ct_widths), sl_widths⟩)
    (c_widths : PySem.W.codeIn K cd_widths "_law_widths" = true)
    (k_widths : PySem.W.keepIn K (.ref f_widths) = true)
    (a_told : PySem.W.nsIn K mainGlobals "_law_told" = some (some (.ref f_told)))
    (l_told : K.lookup f_told = some ⟨oc_told, od_told, .func (PySem.W.fnOf "_law_told" "_law_told" (defArgs sTold) (defBody sTold) (defScope sTold) .none kV_told dc_told pm_told an_told cd_told ct_told), sl_told⟩)
    (c_told : PySem.W.codeIn K cd_told "_law_told" = true)
    (k_told : PySem.W.keepIn K (.ref f_told) = true)
    (a_law : PySem.W.nsIn K mainGlobals "law" = some (some (.ref f_law)))
    (l_law : K.lookup f_law = some ⟨oc_law, od_law, .func (PySem.W.fnOf "law" "law" (defArgs sLaw) (defBody sLaw) (defScope sLaw) .none kV_law dc_law pm_law an_law cd_law ct_law), sl_law⟩)
    (c_law : PySem.W.codeIn K cd_law "law" = true)
    (k_law : PySem.W.keepIn K (.ref f_law) = true)
    (aC : PySem.W.nsIn K mainGlobals "State" = some (some (.ref C)))
    (pg : PySem.W.plainGet K C Str.empty = true)
    (hd : PySem.W.hasDictIn K C = true)
    (po : PySem.W.plainOver K C = true)
    (saC : PySem.W.findIn K (.ref C) "__setattr__" = some (some (.builtin "object.__setattr__")))
    (mkC : PySem.W.makesIn K C = true)
    (kC : PySem.W.keepIn K (.ref C) = true)
    (n_relations : PySem.W.findIn K (.ref C) "relations" = some none)
    (n_facts : PySem.W.findIn K (.ref C) "facts" = some none)
    (n_rules : PySem.W.findIn K (.ref C) "rules" = some none)
    (n_denials : PySem.W.findIn K (.ref C) "denials" = some none)
    (a_put : PySem.W.findIn K (.ref C) "put" = some (some (.ref f_put)))
    (i_put : PySem.W.isFn K (.ref f_put) = true)
    (l_put : K.lookup f_put = some ⟨oc_put, od_put, .func (PySem.W.fnOf "put" "State.put" (defArgs sPut) (defBody sPut) (defScope sPut) .none kV_put dc_put pm_put an_put cd_put ct_put), sl_put⟩)
    (c_put : PySem.W.codeIn K cd_put "State.put" = true)
    (k_put : PySem.W.keepIn K (.ref f_put) = true)
    (a_tidy : PySem.W.findIn K (.ref C) "tidy" = some (some (.ref f_tidy)))
    (i_tidy : PySem.W.isFn K (.ref f_tidy) = true)
    (l_tidy : K.lookup f_tidy = some ⟨oc_tidy, od_tidy, .func (PySem.W.fnOf "tidy" "State.tidy" (defArgs sTidy) (defBody sTidy) (defScope sTidy) .none kV_tidy dc_tidy pm_tidy an_tidy cd_tidy ct_tidy), sl_tidy⟩)
    (c_tidy : PySem.W.codeIn K cd_tidy "State.tidy" = true)
    (k_tidy : PySem.W.keepIn K (.ref f_tidy) = true)
    (a_items : PySem.W.findIn K (.ref C) "all_items" = some (some (.ref f_items)))
    (i_items : PySem.W.isFn K (.ref f_items) = true)
    (l_items : K.lookup f_items = some ⟨oc_items, od_items, .func (PySem.W.fnOf "all_items" "State.all_items" (defArgs sItems) (defBody sItems) (defScope sItems) .none kV_items dc_items pm_items an_items cd_items ct_items), sl_items⟩)
    (c_items : PySem.W.codeIn K cd_items "State.all_items" = true)
    (k_items : PySem.W.keepIn K (.ref f_items) = true)
    (a_init : PySem.W.findIn K (.ref C) "__init__" = some (some (.ref f_init)))
    (i_init : PySem.W.isFn K (.ref f_init) = true)
    (l_init : K.lookup f_init = some ⟨oc_init, od_init, .func (PySem.W.fnOf "__init__" "State.__init__" (defArgs sSInit) (defBody sSInit) (defScope sSInit) (.ref dT) kV_init dc_init pm_init an_init cd_init ct_init), sl_init⟩)
    (c_init : PySem.W.codeIn K cd_init "State.__init__" = true)
    (k_init : PySem.W.keepIn K (.ref f_init) = true)
    (l_dT : K.lookup dT = some ⟨oc_dT, od_dT, .seq #[.ref e0] n_dT, sl_dT⟩)
    (a_rk : PySem.W.nsIn K mainGlobals "row_key" = some (some (.ref rk)))
    (aR : PySem.W.nsIn K mainGlobals "Refused" = some (some (.ref R)))
    (xR : K.lookup R = some (excClassObj nm q R N bs bm true sn sub ab col dd m0 m1 m2 m3 m5 "ValueError.__new__"))
    (saR : PySem.W.findIn K (.ref R) "__setattr__" = some (some (.builtin "object.__setattr__")))
    (noR : PySem.W.findIn K (.ref R) "problem" = some none)
    (kR : PySem.W.keepIn K (.ref R) = true)
    (exR : PySem.W.subIn K (.ref R) (.type "BaseException") = some true)
    (veR : PySem.W.subIn K (.ref R) (.type "ValueError") = some true)
    (tyR : PySem.W.typeIn K (.ref R) = some (.type "type"))
    (mroR : PySem.W.mroIn K R (.ref R) = some true)
    (supR : PySem.W.ks_superIn K R R "__init__" = some (some (.builtin "ValueError.__init__")))
    (opq : PySem.W.nsIn K cStatics "thirdparty.any" = some none)
    (a_rI : PySem.W.findIn K (.ref R) "__init__" = some (some (.ref fI)))
    (t_rI : PySem.W.typeIn K (.ref fI) = some (.type "function"))
    (l_rI : K.lookup fI = some ⟨oc_rI, od_rI, .func (PySem.W.fnX "__init__" "Refused.__init__" iA iB iS [("__class__", cc)] .none .none dc_rI pm_rI an_rI (.ref cda) ct_rI), sl_rI⟩)
    (c_rI : PySem.W.codeIn K (.ref cda) "Refused.__init__" = true)
    (l_cda : K.lookup cda = some ⟨oc_cd, od_cd, .fields vs_cd, sl_cd⟩)
    (v_cda : vs_cd[2]? = some (.str file tf))
    (file_ :  ((P.main.file : Str) == file) = true)
    (l_cc : K.lookup cc = some ⟨oc_cc, od_cc, .cell (some (.ref R)), sl_cc⟩)
    (gaR : PySem.W.findIn K (.ref R) "__getattribute__" = some (some (.builtin "BaseException.__getattribute__")))
    (ggR : PySem.W.findIn K (.ref R) "__getattr__" = some none)
    (hdR : PySem.W.hasDictIn K R = true)
    (aE : PySem.W.nsIn K mainGlobals "RuleError" = some (some (.ref RE)))
    (exE : PySem.W.subIn K (.ref RE) (.type "BaseException") = some true)
    (hdE : PySem.W.hasDictIn K RE = true)
    (tyE : PySem.W.typeIn K (.ref RE) = some (.type "type"))
    (subE : PySem.W.subIn K (.ref R) (.ref RE) = some true)
    (kitR : PySem.W.kitOne K (.ref R) (.ref R) = some true)
    (kitV : PySem.W.kitOne K (.ref R) (.type "ValueError") = some true)
    (z_len : PySem.W.nsIn K mainGlobals "len" = some none)
    (z_int : PySem.W.nsIn K mainGlobals "int" = some none)
    (z_isinstance : PySem.W.nsIn K mainGlobals "isinstance" = some none)
    (z_bool : PySem.W.nsIn K mainGlobals "bool" = some none)
    (z_str : PySem.W.nsIn K mainGlobals "str" = some none)
    (z_tuple : PySem.W.nsIn K mainGlobals "tuple" = some none)
    (z_list : PySem.W.nsIn K mainGlobals "list" = some none)
    (z_range : PySem.W.nsIn K mainGlobals "range" = some none)
    (z_sorted : PySem.W.nsIn K mainGlobals "sorted" = some none)
    (z_super : PySem.W.nsIn K mainGlobals "super" = some none)
    (z_ValueError : PySem.W.nsIn K mainGlobals "ValueError" = some none)
    : ∃ fd : FuncData, (∀ (s : Shared) (v : Value), BindsTo s fd ⟨[v], []⟩ [("_law_script", v)]) ∧ ∀ base : Heap, K.In base → base.Ns mainGlobals mg → FnOk P w K mg base CX0 8 fa fd ["_law_script"] (spLaw K) := by
  have e := hfa.symm.trans (PySem.W.mg_of X G a_law)
  cases e
  have F_columns := fun_mk (st := sColumns) l_columns c_columns k_columns
  have F_atom := fun_mk (st := sAtom) l_atom c_atom k_atom
  have F_terms := fun_mk (st := sTerms) l_terms c_terms k_terms
  have F_vars := fun_mk (st := sVars) l_vars c_vars k_vars
  have F_lit := fun_mk (st := sLit) l_lit c_lit k_lit
  have F_body := fun_mk (st := sBody) l_body c_body k_body
  have F_denial := fun_mk (st := sDenial) l_denial c_denial k_denial
  have F_next := fun_mk (st := sNext) l_next c_next k_next
  have F_same := fun_mk (st := sSame) l_same c_same k_same
  have F_worth := fun_mk (st := sWorth) l_worth c_worth k_worth
  have F_vari := fun_mk (st := sVariable) l_vari c_vari k_vari
  have F_term := fun_mk (st := sTerm) l_term c_term k_term
  have F_settled := fun_mk (st := sSettled) l_settled c_settled k_settled
  have F_literal := fun_mk (st := sLiteral) l_literal c_literal k_literal
  have F_binds := fun_mk (st := sBinds) l_binds c_binds k_binds
  have F_lbody := fun_mk (st := sLBody) l_lbody c_lbody k_lbody
  have F_loose := fun_mk (st := sLoose) l_loose c_loose k_loose
  have F_litprob := fun_mk (st := sLitProb) l_litprob c_litprob k_litprob
  have F_bodyprob := fun_mk (st := sBodyProb) l_bodyprob c_bodyprob k_bodyprob
  have F_each := fun_mk (st := sEach) l_each c_each k_each
  have F_widths := fun_mk (st := sWidths) l_widths c_widths k_widths
  have F_told := fun_mk (st := sTold) l_told c_told k_told
  have F_law := fun_mk (st := sLaw) l_law c_law k_law
  have F_put := fun_mk (st := sPut) l_put c_put k_put
  have F_tidy := fun_mk (st := sTidy) l_tidy c_tidy k_tidy
  have F_items := fun_mk (st := sItems) l_items c_items k_items
  have b_columns := F_columns.binds (ps := ["state", "relation"]) fun _ _ _ _ _ _ us hl => match us, hl with | [_, _], _ => rfl
  have b_atom := F_atom.binds (ps := ["state", "relation", "terms"]) fun _ _ _ _ _ _ us hl => match us, hl with | [_, _, _], _ => rfl
  have b_terms := F_terms.binds (ps := ["terms", "known", "lets_any"]) fun _ _ _ _ _ _ us hl => match us, hl with | [_, _, _], _ => rfl
  have b_vars := F_vars.binds (ps := ["terms"]) fun _ _ _ _ _ _ us hl => match us, hl with | [_], _ => rfl
  have b_lit := F_lit.binds (ps := ["state", "literal", "known"]) fun _ _ _ _ _ _ us hl => match us, hl with | [_, _, _], _ => rfl
  have b_body := F_body.binds (ps := ["state", "body"]) fun _ _ _ _ _ _ us hl => match us, hl with | [_, _], _ => rfl
  have b_denial := F_denial.binds (ps := ["state", "name", "body"]) fun _ _ _ _ _ _ us hl => match us, hl with | [_, _, _], _ => rfl
  have b_next := F_next.binds (ps := ["_law_state", "_law_limit"]) fun _ _ _ _ _ _ us hl => match us, hl with | [_, _], _ => rfl
  have b_same := F_same.binds (ps := ["_law_actual", "_law_expected"]) fun _ _ _ _ _ _ us hl => match us, hl with | [_, _], _ => rfl
  have b_worth := F_worth.binds (ps := ["_law_state"]) fun _ _ _ _ _ _ us hl => match us, hl with | [_], _ => rfl
  have b_vari := F_vari.binds (ps := ["_law_state"]) fun _ _ _ _ _ _ us hl => match us, hl with | [_], _ => rfl
  have b_term := F_term.binds (ps := ["_law_state", "_law_bound"]) fun _ _ _ _ _ _ us hl => match us, hl with | [_, _], _ => rfl
  have b_settled := F_settled.binds (ps := ["_law_term_here", "_law_bound"]) fun _ _ _ _ _ _ us hl => match us, hl with | [_, _], _ => rfl
  have b_literal := F_literal.binds (ps := ["_law_state", "_law_widths_here", "_law_bound", "_law_careful"]) fun _ _ _ _ _ _ us hl => match us, hl with | [_, _, _, _], _ => rfl
  have b_binds := F_binds.binds (ps := ["_law_literal_here"]) fun _ _ _ _ _ _ us hl => match us, hl with | [_], _ => rfl
  have b_lbody := F_lbody.binds (ps := ["_law_state", "_law_widths_here", "_law_careful", "_law_most"]) fun _ _ _ _ _ _ us hl => match us, hl with | [_, _, _, _], _ => rfl
  have b_loose := F_loose.binds (ps := ["_law_terms", "_law_bound", "_law_lets_any"]) fun _ _ _ _ _ _ us hl => match us, hl with | [_, _, _], _ => rfl
  have b_litprob := F_litprob.binds (ps := ["_law_widths_here", "_law_literal_here", "_law_bound"]) fun _ _ _ _ _ _ us hl => match us, hl with | [_, _, _], _ => rfl
  have b_bodyprob := F_bodyprob.binds (ps := ["_law_widths_here", "_law_body_here"]) fun _ _ _ _ _ _ us hl => match us, hl with | [_, _], _ => rfl
  have b_each := F_each.binds (ps := ["_law_names"]) fun _ _ _ _ _ _ us hl => match us, hl with | [_], _ => rfl
  have b_widths := F_widths.binds (ps := ["_law_world"]) fun _ _ _ _ _ _ us hl => match us, hl with | [_], _ => rfl
  have b_told := F_told.binds (ps := ["_law_form", "_law_state", "_law_name", "_law_body_here"]) fun _ _ _ _ _ _ us hl => match us, hl with | [_, _, _, _], _ => rfl
  have b_put := F_put.binds (ps := ["self", "item"]) fun _ _ _ _ _ _ us hl => match us, hl with | [_, _], _ => rfl
  have b_tidy := F_tidy.binds (ps := ["self"]) fun _ _ _ _ _ _ us hl => match us, hl with | [_], _ => rfl
  have b_items := F_items.binds (ps := ["self"]) fun _ _ _ _ _ _ us hl => match us, hl with | [_], _ => rfl
  let A : Nm → Addr := fun n => match n with | .columns => f_columns | .atom => f_atom | .terms => f_terms | .vars => f_vars | .lit => f_lit | .body => f_body | .denial => f_denial | .next => f_next | .same => f_same | .worth => f_worth | .vari => f_vari | .term => f_term | .settled => f_settled | .literal => f_literal | .binds => f_binds | .lbody => f_lbody | .loose => f_loose | .litprob => f_litprob | .bodyprob => f_bodyprob | .each => f_each | .widths => f_widths | .told => f_told | .put => f_put | .tidy => f_tidy | .items => f_items | .law => fa
  let D : Nm → FuncData := fun n => match n with | .columns => PySem.W.fnOf "columns" "columns" (defArgs sColumns) (defBody sColumns) (defScope sColumns) .none kV_columns dc_columns pm_columns an_columns cd_columns ct_columns | .atom => PySem.W.fnOf "check_atom" "check_atom" (defArgs sAtom) (defBody sAtom) (defScope sAtom) .none kV_atom dc_atom pm_atom an_atom cd_atom ct_atom | .terms => PySem.W.fnOf "check_terms" "check_terms" (defArgs sTerms) (defBody sTerms) (defScope sTerms) .none kV_terms dc_terms pm_terms an_terms cd_terms ct_terms | .vars => PySem.W.fnOf "variables_of" "variables_of" (defArgs sVars) (defBody sVars) (defScope sVars) .none kV_vars dc_vars pm_vars an_vars cd_vars ct_vars | .lit => PySem.W.fnOf "check_literal" "check_literal" (defArgs sLit) (defBody sLit) (defScope sLit) .none kV_lit dc_lit pm_lit an_lit cd_lit ct_lit | .body => PySem.W.fnOf "check_body" "check_body" (defArgs sBody) (defBody sBody) (defScope sBody) .none kV_body dc_body pm_body an_body cd_body ct_body | .denial => PySem.W.fnOf "check_denial" "check_denial" (defArgs sDenial) (defBody sDenial) (defScope sDenial) .none kV_denial dc_denial pm_denial an_denial cd_denial ct_denial | .next => PySem.W.fnOf "_law_next" "_law_next" (defArgs sNext) (defBody sNext) (defScope sNext) .none kV_next dc_next pm_next an_next cd_next ct_next | .same => PySem.W.fnOf "_law_same" "_law_same" (defArgs sSame) (defBody sSame) (defScope sSame) .none kV_same dc_same pm_same an_same cd_same ct_same | .worth => PySem.W.fnOf "_law_worth" "_law_worth" (defArgs sWorth) (defBody sWorth) (defScope sWorth) .none kV_worth dc_worth pm_worth an_worth cd_worth ct_worth | .vari => PySem.W.fnOf "_law_variable" "_law_variable" (defArgs sVariable) (defBody sVariable) (defScope sVariable) .none kV_vari dc_vari pm_vari an_vari cd_vari ct_vari | .term => PySem.W.fnOf "_law_term" "_law_term" (defArgs sTerm) (defBody sTerm) (defScope sTerm) .none kV_term dc_term pm_term an_term cd_term ct_term | .settled => PySem.W.fnOf "_law_settled" "_law_settled" (defArgs sSettled) (defBody sSettled) (defScope sSettled) .none kV_settled dc_settled pm_settled an_settled cd_settled ct_settled | .literal => PySem.W.fnOf "_law_literal" "_law_literal" (defArgs sLiteral) (defBody sLiteral) (defScope sLiteral) .none kV_literal dc_literal pm_literal an_literal cd_literal ct_literal | .binds => PySem.W.fnOf "_law_binds" "_law_binds" (defArgs sBinds) (defBody sBinds) (defScope sBinds) .none kV_binds dc_binds pm_binds an_binds cd_binds ct_binds | .lbody => PySem.W.fnOf "_law_body" "_law_body" (defArgs sLBody) (defBody sLBody) (defScope sLBody) .none kV_lbody dc_lbody pm_lbody an_lbody cd_lbody ct_lbody | .loose => PySem.W.fnOf "_law_loose" "_law_loose" (defArgs sLoose) (defBody sLoose) (defScope sLoose) .none kV_loose dc_loose pm_loose an_loose cd_loose ct_loose | .litprob => PySem.W.fnOf "_law_literal_problem" "_law_literal_problem" (defArgs sLitProb) (defBody sLitProb) (defScope sLitProb) .none kV_litprob dc_litprob pm_litprob an_litprob cd_litprob ct_litprob | .bodyprob => PySem.W.fnOf "_law_body_problem" "_law_body_problem" (defArgs sBodyProb) (defBody sBodyProb) (defScope sBodyProb) .none kV_bodyprob dc_bodyprob pm_bodyprob an_bodyprob cd_bodyprob ct_bodyprob | .each => PySem.W.fnOf "_law_each_once" "_law_each_once" (defArgs sEach) (defBody sEach) (defScope sEach) .none kV_each dc_each pm_each an_each cd_each ct_each | .widths => PySem.W.fnOf "_law_widths" "_law_widths" (defArgs sWidths) (defBody sWidths) (defScope sWidths) .none kV_widths dc_widths pm_widths an_widths cd_widths ct_widths | .told => PySem.W.fnOf "_law_told" "_law_told" (defArgs sTold) (defBody sTold) (defScope sTold) .none kV_told dc_told pm_told an_told cd_told ct_told | .put => PySem.W.fnOf "put" "State.put" (defArgs sPut) (defBody sPut) (defScope sPut) .none kV_put dc_put pm_put an_put cd_put ct_put | .tidy => PySem.W.fnOf "tidy" "State.tidy" (defArgs sTidy) (defBody sTidy) (defScope sTidy) .none kV_tidy dc_tidy pm_tidy an_tidy cd_tidy ct_tidy | .items => PySem.W.fnOf "all_items" "State.all_items" (defArgs sItems) (defBody sItems) (defScope sItems) .none kV_items dc_items pm_items an_items cd_items ct_items | .law => PySem.W.fnOf "law" "law" (defArgs sLaw) (defBody sLaw) (defScope sLaw) .none kV_law dc_law pm_law an_law cd_law ct_law
  have T : Txt P K mg A D := ⟨⟨F_columns, PySem.W.mg_of X G a_columns, b_columns⟩, ⟨F_atom, PySem.W.mg_of X G a_atom, b_atom⟩, ⟨F_terms, PySem.W.mg_of X G a_terms, b_terms⟩, ⟨F_vars, PySem.W.mg_of X G a_vars, b_vars⟩, ⟨F_lit, PySem.W.mg_of X G a_lit, b_lit⟩, ⟨F_body, PySem.W.mg_of X G a_body, b_body⟩, ⟨F_denial, PySem.W.mg_of X G a_denial, b_denial⟩, ⟨F_next, PySem.W.mg_of X G a_next, b_next⟩, ⟨F_same, PySem.W.mg_of X G a_same, b_same⟩, ⟨F_worth, PySem.W.mg_of X G a_worth, b_worth⟩, ⟨F_vari, PySem.W.mg_of X G a_vari, b_vari⟩, ⟨F_term, PySem.W.mg_of X G a_term, b_term⟩, ⟨F_settled, PySem.W.mg_of X G a_settled, b_settled⟩, ⟨F_literal, PySem.W.mg_of X G a_literal, b_literal⟩, ⟨F_binds, PySem.W.mg_of X G a_binds, b_binds⟩, ⟨F_lbody, PySem.W.mg_of X G a_lbody, b_lbody⟩, ⟨F_loose, PySem.W.mg_of X G a_loose, b_loose⟩, ⟨F_litprob, PySem.W.mg_of X G a_litprob, b_litprob⟩, ⟨F_bodyprob, PySem.W.mg_of X G a_bodyprob, b_bodyprob⟩, ⟨F_each, PySem.W.mg_of X G a_each, b_each⟩, ⟨F_widths, PySem.W.mg_of X G a_widths, b_widths⟩, ⟨F_told, PySem.W.mg_of X G a_told, b_told⟩, PySem.W.mg_none_of X G z_len, PySem.W.mg_none_of X G z_int, PySem.W.mg_none_of X G z_isinstance, PySem.W.mg_none_of X G z_bool, PySem.W.mg_none_of X G z_str, PySem.W.mg_none_of X G z_tuple, PySem.W.mg_none_of X G z_list, PySem.W.mg_none_of X G z_range, PySem.W.mg_none_of X G z_sorted⟩
  have FI : FunD K "__init__" "State.__init__" (defArgs sSInit) (defBody sSInit) (defScope sSInit) [V.ref e0] [] f_init (PySem.W.fnOf "__init__" "State.__init__" (defArgs sSInit) (defBody sSInit) (defScope sSInit) (.ref dT) kV_init dc_init pm_init an_init cd_init ct_init) :=
    ⟨⟨oc_init, od_init, .ref dT, kV_init, dc_init, pm_init, an_init, cd_init, ct_init, sl_init, rfl, l_init, c_init, .inr ⟨by simp, dT, _, [.ref e0], n_dT, rfl, l_dT, rfl, .cons rfl .nil⟩, .inl rfl⟩, k_init⟩
  have bI : Binds K (PySem.W.fnOf "__init__" "State.__init__" (defArgs sSInit) (defBody sSInit) (defScope sSInit) (.ref dT) kV_init dc_init pm_init an_init cd_init ct_init) ["self", "items"] [] := by
    obtain ⟨ds, hds, hb⟩ := FI.binds1 (ps := ["self", "items"]) 2 1 (by simp) rfl (fun T kV doc pm an cdv ct us its hl h2 => match us, its, hl, h2 with | [_, _], [_], _, _ => ⟨_, rfl, rfl⟩)
    cases hds
    exact hb
  have S : SttT K mg C A D f_init (PySem.W.fnOf "__init__" "State.__init__" (defArgs sSInit) (defBody sSInit) (defScope sSInit) (.ref dT) kV_init dc_init pm_init an_init cd_init ct_init) rk :=
    ⟨⟨⟨pg, hd, po, saC⟩, n_relations, n_facts, n_rules, n_denials⟩, PySem.W.mg_of X G aC, ⟨F_put, ⟨a_put, i_put, k_put⟩, b_put⟩, ⟨F_tidy, ⟨a_tidy, i_tidy, k_tidy⟩, b_tidy⟩, ⟨F_items, ⟨a_items, i_items, k_items⟩, b_items⟩, ⟨mkC, a_init, i_init, kC⟩, ⟨_, FI⟩, bI, PySem.W.mg_of X G a_rk⟩
  have TR : RefTxt P K mg R :=
    ⟨PySem.W.mg_of X G aR, ⟨nm, q, N, bs, bm, sn, sub, ab, col, dd, m0, m1, m2, m3, m5, xR, hbm⟩, saR, noR, kR, exR, veR, tyR, mroR, supR, opq, PySem.W.mg_none_of X G z_super, htop,
      ⟨fI, cc, cda, oc_rI, oc_cd, oc_cc, od_rI, od_cd, od_cc, dc_rI, pm_rI, an_rI, ct_rI, sl_rI, sl_cd, sl_cc, vs_cd, file, tf, a_rI, t_rI, l_rI, c_rI, l_cda, v_cda, file_, l_cc⟩⟩
  have Er : ErrC K mg R RE := ⟨⟨gaR, ggR, exR, hdR⟩, PySem.W.mg_of X G aE, PySem.W.exm_ref exE hdE tyE subE, kitR, kitV, PySem.W.mg_none_of X G z_ValueError⟩
  exact ⟨PySem.W.fnOf "law" "law" (defArgs sLaw) (defBody sLaw) (defScope sLaw) .none kV_law dc_law pm_law an_law cd_law ct_law, fun s v => .of_eq rfl, fun base _ _ => ok_law T S TR Er F_law⟩
theorem walk {l : PySem.W.OpenLaw} {q : Program} {loose : List Str} {XP : (Str → Option Value) → Heap → Prop} {YP : World → Heap → Prop} {d : DefRec} {K : Params → PySem.W.Frag} (hn : l.most = some 63) (hdf : d.params.defaults = [])
    (hY : ∀ (w : World) (h : Heap), YP w h → (K w.params).In h)
    (F : ∀ (w : World) (mg : Str → Option Value) (fa : Addr) (h : Heap), (K w.params).In h → h.Ns mainGlobals mg → mg d.name = some (.ref fa) →
      ∃ fd : FuncData, (∀ (s : Shared) (u : Value), BindsTo s fd ⟨[u], []⟩ [("_law_script", u)]) ∧ ∀ base : Heap, (K w.params).In base → base.Ns mainGlobals mg → FnOk l.prog w (K w.params) mg base CX0 8 fa fd ["_law_script"] (spLaw (K w.params))) :
    PySem.W.WalkO q loose XP YP l.row.toRowW d [] (fun f vs => PySem.call f vs) :=
  L2.walk_of (n := 63) (k := 8) (x := "_law_script") (CX := fun _ => CX0) (sp := fun w => spLaw (K w.params)) hn (by decide) hdf ⟨rfl, by decide, by decide⟩ hY F (fun _ _ a ns hl _ hS => ⟨a, ns, rfl, hS, hl, fun _ => rfl⟩) fun _ _ _ _ _ z => z
end K21

open PySem PySem.W PyProof.Rows
set_option Elab.async false
set_option maxRecDepth 100000 in
set_option maxHeartbeats 0 in
theorem PySem.Challenge.cw_rulestead_k21_what_is_accepted_holds : PySem.Challenge.rw_rulestead_k21_what_is_accepted.Holds := by
  w_on; o_law; k_head; (case hw => w_witness2)
  k_fill
  refine K21.walk (l := PySem.Challenge.rw_rulestead_k21_what_is_accepted) rfl rfl (fun w h Y => PySem.W.kIn_of Y) ?F
  case F =>
    intro w mg fa h KX G hmg
    refine' K21.all_mk KX G hmg ?htop ?hbm ?a_columns ?l_columns ?c_columns ?k_columns ?a_atom ?l_atom ?c_atom ?k_atom ?a_terms ?l_terms ?c_terms ?k_terms ?a_vars ?l_vars ?c_vars ?k_vars ?a_lit ?l_lit ?c_lit ?k_lit ?a_body ?l_body ?c_body ?k_body ?a_denial ?l_denial ?c_denial ?k_denial ?a_next ?l_next ?c_next ?k_next ?a_same ?l_same ?c_same ?k_same ?a_worth ?l_worth ?c_worth ?k_worth ?a_vari ?l_vari ?c_vari ?k_vari ?a_term ?l_term ?c_term ?k_term ?a_settled ?l_settled ?c_settled ?k_settled ?a_literal ?l_literal ?c_literal ?k_literal ?a_binds ?l_binds ?c_binds ?k_binds ?a_lbody ?l_lbody ?c_lbody ?k_lbody ?a_loose ?l_loose ?c_loose ?k_loose ?a_litprob ?l_litprob ?c_litprob ?k_litprob ?a_bodyprob ?l_bodyprob ?c_bodyprob ?k_bodyprob ?a_each ?l_each ?c_each ?k_each ?a_widths ?l_widths ?c_widths ?k_widths ?a_told ?l_told ?c_told ?k_told ?a_law ?l_law ?c_law ?k_law ?aC ?pg ?hd ?po ?saC ?mkC ?kC ?n_relations ?n_facts ?n_rules ?n_denials ?a_put ?i_put ?l_put ?c_put ?k_put ?a_tidy ?i_tidy ?l_tidy ?c_tidy ?k_tidy ?a_items ?i_items ?l_items ?c_items ?k_items ?a_init ?i_init ?l_init ?c_init ?k_init ?l_dT ?a_rk ?aR ?xR ?saR ?noR ?kR ?exR ?veR ?tyR ?mroR ?supR ?opq ?a_rI ?t_rI ?l_rI ?c_rI ?l_cda ?v_cda ?file_ ?l_cc ?gaR ?ggR ?hdR ?aE ?exE ?hdE ?tyE ?subE ?kitR ?kitV ?z_len ?z_int ?z_isinstance ?z_bool ?z_str ?z_tuple ?z_list ?z_range ?z_sorted ?z_super ?z_ValueError
    (case htop => decide +kernel)
    (case a_columns => k_is)
    (case l_columns => k_is)
    (case c_columns => k_is)
    (case k_columns => k_is)
    (case a_atom => k_is)
    (case l_atom => k_is)
    (case c_atom => k_is)
    (case k_atom => k_is)
    (case a_terms => k_is)
    (case l_terms => k_is)
    (case c_terms => k_is)
    (case k_terms => k_is)
    (case a_vars => k_is)
    (case l_vars => k_is)
    (case c_vars => k_is)
    (case k_vars => k_is)
    (case a_lit => k_is)
    (case l_lit => k_is)
    (case c_lit => k_is)
    (case k_lit => k_is)
    (case a_body => k_is)
    (case l_body => k_is)
    (case c_body => k_is)
    (case k_body => k_is)
    (case a_denial => k_is)
    (case l_denial => k_is)
    (case c_denial => k_is)
    (case k_denial => k_is)
    (case a_next => k_is)
    (case l_next => k_is)
    (case c_next => k_is)
    (case k_next => k_is)
    (case a_same => k_is)
    (case l_same => k_is)
    (case c_same => k_is)
    (case k_same => k_is)
    (case a_worth => k_is)
    (case l_worth => k_is)
    (case c_worth => k_is)
    (case k_worth => k_is)
    (case a_vari => k_is)
    (case l_vari => k_is)
    (case c_vari => k_is)
    (case k_vari => k_is)
    (case a_term => k_is)
    (case l_term => k_is)
    (case c_term => k_is)
    (case k_term => k_is)
    (case a_settled => k_is)
    (case l_settled => k_is)
    (case c_settled => k_is)
    (case k_settled => k_is)
    (case a_literal => k_is)
    (case l_literal => k_is)
    (case c_literal => k_is)
    (case k_literal => k_is)
    (case a_binds => k_is)
    (case l_binds => k_is)
    (case c_binds => k_is)
    (case k_binds => k_is)
    (case a_lbody => k_is)
    (case l_lbody => k_is)
    (case c_lbody => k_is)
    (case k_lbody => k_is)
    (case a_loose => k_is)
    (case l_loose => k_is)
    (case c_loose => k_is)
    (case k_loose => k_is)
    (case a_litprob => k_is)
    (case l_litprob => k_is)
    (case c_litprob => k_is)
    (case k_litprob => k_is)
    (case a_bodyprob => k_is)
    (case l_bodyprob => k_is)
    (case c_bodyprob => k_is)
    (case k_bodyprob => k_is)
    (case a_each => k_is)
    (case l_each => k_is)
    (case c_each => k_is)
    (case k_each => k_is)
    (case a_widths => k_is)
    (case l_widths => k_is)
    (case c_widths => k_is)
    (case k_widths => k_is)
    (case a_told => k_is)
    (case l_told => k_is)
    (case c_told => k_is)
    (case k_told => k_is)
    (case a_law => k_is)
    (case l_law => k_is)
    (case c_law => k_is)
    (case k_law => k_is)
    (case aC => k_is)
    (case pg => k_is)
    (case hd => k_is)
    (case po => k_is)
    (case saC => k_is)
    (case mkC => k_is)
    (case kC => k_is)
    (case n_relations => k_is)
    (case n_facts => k_is)
    (case n_rules => k_is)
    (case n_denials => k_is)
    (case a_put => k_is)
    (case i_put => k_is)
    (case l_put => k_is)
    (case c_put => k_is)
    (case k_put => k_is)
    (case a_tidy => k_is)
    (case i_tidy => k_is)
    (case l_tidy => k_is)
    (case c_tidy => k_is)
    (case k_tidy => k_is)
    (case a_items => k_is)
    (case i_items => k_is)
    (case l_items => k_is)
    (case c_items => k_is)
    (case k_items => k_is)
    (case a_init => k_is)
    (case i_init => k_is)
    (case l_init => k_is)
    (case c_init => k_is)
    (case k_init => k_is)
    (case l_dT => k_is)
    (case a_rk => k_is)
    (case aR => k_is)
    (case xR => k_is)
    (case saR => k_is)
    (case noR => k_is)
    (case kR => k_is)
    (case exR => k_is)
    (case veR => first | k_is | rfl)
    (case tyR => k_is)
    (case mroR => first | k_is | rfl)
    (case supR => first | k_is | rfl)
    (case opq => k_is)
    (case a_rI => k_is)
    (case t_rI => k_is)
    (case l_rI => k_is)
    (case c_rI => k_is)
    (case l_cda => k_is)
    (case v_cda => rfl)
    (case file_ => decide +kernel)
    (case l_cc => k_is)
    (case gaR => k_is)
    (case ggR => k_is)
    (case hdR => k_is)
    (case aE => k_is)
    (case exE => k_is)
    (case hdE => k_is)
    (case tyE => k_is)
    (case subE => first | k_is | rfl)
    (case kitR => first | k_is | rfl | decide +kernel)
    (case kitV => first | k_is | rfl | decide +kernel)
    (case z_len => k_is)
    (case z_int => k_is)
    (case z_isinstance => k_is)
    (case z_bool => k_is)
    (case z_str => k_is)
    (case z_tuple => k_is)
    (case z_list => k_is)
    (case z_range => k_is)
    (case z_sorted => k_is)
    (case z_super => k_is)
    (case z_ValueError => k_is)
    (case hbm => decide +kernel)
#print axioms PySem.Challenge.cw_rulestead_k21_what_is_accepted_holds
