import PyProof.Rows.All
import Wide.All
import OpenK.AllK
import Wide.FinOn
import KE.KExcSuper
import KE.KExcMake
import HandS.ForMost
import HandS.ForExc
import HandS.ExcInit
import HandS.ExcField
import HandS.Nested
import KE.GoesEnum
import KE.GoesNew
import KE.GoesMore
import HandS.Walk
import HandS.Deep
import HandS.Zip
import KE.KStateDown
import HandS.Defaults
import HandS.Property
import HandS.IsInst
import HandS.HeadHook1
import HandS.HeadHook2
import PySem.Challenge.RW_carriedin_k12_whole_enough_notes
import HandS.Evl
import HandS.Codes
import HandS.Star
import HandS.TupAny
import HandS.Strs
import HandS.WordsDict
import HandS.TryOnly
import Lean
import HandS.Head0
import HandS.Head1
import HandS.Head2
import HandS.HeadEnd
set_option Elab.async false
set_option linter.all false
set_option maxRecDepth 100000
set_option maxHeartbeats 4000000
/-! An own exception class over ValueError whose __init__ says super().__init__(text); self.f = v. -/
namespace CiX
open PySem PySem.Spec PyProof.Rows L2
open PySem.W (Looks looks_clsIn looks_mroIn looks_subIn looks_opaque looks_nsIn kxs_mw kxs_ValueError)

/-! ### the bound ValueError.__init__ is called -/
section
variable {prog : Program} {w : World} {A : Around} {E : Value → Shared → Prop} {h : Heap} {g : Array GenState} {d : Drawn} {t : Nat} {os : OsState}
variable {nm q : Str} {C N : Addr} {bs bm : List Value} {hdct : Bool} {sn : List Str} {sub : List Value} {ab : Bool} {col : Option Bool} {dd : Option Addr} {k0 k1 k2 k3 k5 : Option Value}
theorem mw_call {u e t0 : Addr} {args : List Value} {Q : Value → Shared → Prop} (oC : h.get? C = some (excClassObj nm q C N bs bm hdct sn sub ab col dd k0 k1 k2 k3 k5 "ValueError.__new__"))
    (oE : h.get? e = some (HandSPX.excO C t0)) (oU : h.get? u = some (kxs_mw "ValueError.__init__" e)) (few : args.length ≤ sizeLine)
    (done : ∀ h2 t1, (∀ b o, b ≠ e → h.get? b = some o → h2.get? b = some o) → h2.get? e = some (HandSPX.excO C t1) → Q .none ⟨h2, g, d, t, os⟩) : wpAny (model prog w) A (call (.ref u) args) Q E ⟨h, g, d, t, os⟩ := by
  refine wpAny_call (codeAny_of_tree (show wpAny _ A.in1 (callAny (.ref u) ⟨args, []⟩) _ _ _ from ?_))
  unfold callAny
  refine wpAny_bind (wpAny_load oU (PySem.W.KFB.if_so (by dsimp only [kxs_mw]; decide +kernel) (wpAny_bind (PySem.W.check_bound_init F.excBase_ValueError.toExcCallFacts oC oE rfl (wpAny_bind (wpAny_pure (wpAny_pure ?_)))))))
  refine ⟨plainId_quiet F.excBase_ValueError.init.plain _, codeAny_builtin F.excBase_ValueError.initEntry (PySem.W.exc_init_tree (cls := .ref C) (t0 := t0) (dv := none) (c2 := .none) (c3 := .none) (b4 := .bool false) oE few fun h2 k1 k2 _ => done h2 h.objs.size k1 k2)⟩
end

/-! ### the class, its __init__ -/
theorem lookup_put' {β : Type} (g : Str) {f : Str} {y : β} {fs : List (Str × β)} : ((f, y) :: fs).lookup g = if g = f then some y else fs.lookup g := by
  by_cases h : g = f
  · subst h
    simp [List.lookup]
  · rw [if_neg h]
    have e : (g == f) = false := beq_eq_false_iff_ne.mpr h
    show (match g == f with | true => some y | false => fs.lookup g) = _
    rw [e]
structure IrOk (P : Program) (K : PySem.W.Frag) (C f cc cda : Addr) (qual : Str) (args : Arguments) (body : List Stmt) (scope : Scope) (fd : FuncData) : Prop where
  T : OexC K C
  fn : ∃ oc od osl kV doc pm an ct, fd = PySem.W.fnX "__init__" qual args body scope [("__class__", cc)] .none kV doc pm an (.ref cda) ct ∧ K.lookup f = some ⟨oc, od, .func fd, osl⟩
  code : PySem.W.codeIn K (.ref cda) qual = true
  file : ∃ ccl cdd vs ccs file tf, K.lookup cda = some ⟨ccl, cdd, .fields vs, ccs⟩ ∧ vs[2]? = some (.str file tf) ∧ ((P.main.file : Str) == file) = true
  cell : ∃ cl cld csl, K.lookup cc = some ⟨cl, cld, .cell (some (.ref C)), csl⟩
  top : (P.main.scope.names.lookup ("super" : Str)).isSome = false
  mro : PySem.W.mroIn K C (.ref C) = some true
  sup : PySem.W.ks_superIn K C C "__init__" = some (some (.builtin "ValueError.__init__"))
  ve : PySem.W.subIn K (.ref C) (.type "ValueError") = some true
  third : PySem.W.nsIn K cStatics "thirdparty.any" = some none
  free : PySem.W.nsIn K mainGlobals "super" = some none
  init : PySem.W.findIn K (.ref C) "__init__" = some (some (.ref f))
  typ : PySem.W.typeIn K (.ref f) = some (.type "function")
def spIr (C : Addr) (fl : Str) : Sp := fun vs H Q _ => ∃ a y, vs = [.ref a, y] ∧ H a = some (exo a C none) ∧ ∀ dx, H dx = none → dx ≠ a → Q .non (upd (upd H dx (exd dx [(fl, y)])) a (exo a C (some dx)))
theorem cls_ne {h : Heap} {a C t : Addr} {o : Obj} {cd : ClassData} (h1 : h.get? a = some (HandSPX.excO C t)) (h2 : h.get? C = some o) (h3 : o.data = .cls cd) : a ≠ C := fun z => by
  rw [z, h2] at h1
  cases h1
  cases h3
section
variable {CX : CXT} {P : Program} {w : World} {K : PySem.W.Frag} {mg : Str → Option Value} {base : Heap}
theorem ir_fn {C f cc cda : Addr} {qual fl msg px : Str} {args : Arguments} {scope : Scope} {fd : FuncData} {k j : Nat} {ar : Arg} {p0 p1 p2 p3 p4 p5 p6 p7 p8 p9 : Pos}
    {body : List Stmt} (hbd : body = [.Expr (.Call (.Attribute (.Call (.Name "super" p0) [] [] p1) "__init__" p2) [.Constant (.str msg) j p3] [] p4) p5, .Assign [.Attribute (.Name "self" p6) fl p7] (.Name px p8) p9])
    (R : IrOk P K C f cc cda qual args body scope fd)
    (S : NdefX.NScope ["self", px, "__class__"] ["self", px] ["__class__"] scope) (hks : scope.names.lookup ("super" : Str) = some .globalImplicit) (hkc : scope.names.lookup ("__class__" : Str) = some .free) (hka : scope.names.lookup ("self" : Str) = some .local)
    (hkx : scope.names.lookup px = some .local) (hxs : px ≠ "self") (hxd : (px == ("__debug__" : Str)) = false) (hxc : (px == ("__classdict__" : Str)) = false) (hpa : (args.posonlyargs ++ args.args).head? = some ar) (har : ar.arg = "self") {pl : Env → Sem Bool}
    (he : ∀ env : Env, eval (.Call (.Attribute (.Call (.Name "super" p0) [] [] p1) "__init__" p2) [.Constant (.str msg) j p3] [] p4) env = (do
      let ov ← attributeBase (.Call (.Name "super" p0) [] [] p1) "__init__" env (eval (.Call (.Name "super" p0) [] [] p1) env)
      standAt p2.atName
      let (f, first) ← holding [ov] (getMethod ov "__init__" (pl env))
      callWith p4 f first (backTo p4 (starEach [.Constant (.str msg) j p3] env)) [])) (hno : PySem.W.findIn K (.ref C) fl = some none) : FnOk P w K mg base CX (k + 1) f fd ["self", px] (spIr C fl) := by
  refine ⟨fun vs H Q E h => by obtain ⟨a, y, rfl, _⟩ := h; rfl, fun A outer s H as us vs Q E hr e0 hb r hsp => ?_⟩
  obtain ⟨a, y, rfl, ha, go⟩ := hsp
  obtain ⟨oc, od, osl, kV, doc, pm, an, ct, rfl, lk⟩ := R.fn
  have KX : K.In s.heap := e0.mod.kin.keeps fun b o e => (e0.bs b o e).1
  have lim : s.heap.NoLimit := e0.mod.nolimit.keeps fun b o e => (e0.bs b o e).1
  obtain ⟨u1, r1, ra, rr⟩ : ∃ u1 r1, RelV (.ref a) u1 ∧ us = u1 :: r1 ∧ Vals [y] r1 := by
    cases r with
    | cons x z => exact ⟨_, _, x, rfl, z⟩
  obtain ⟨rfl, rr⟩ := rr
  obtain rfl : u1 = Value.ref a := ra
  obtain ⟨u2, ry, rfl⟩ : ∃ u2, RelV y u2 ∧ r1 = [u2] := by
    cases rr with
    | cons x z =>
      cases z
      exact ⟨_, x, rfl⟩
  refine ks_codeAny_call_defAt hr.depth (KX _ _ lk) rfl lim (PySem.W.codeRec_of KX R.code) rfl hb S.nocell (fun x hx => S.par x.1 (List.of_mem_zip hx).1) (fun h₁ hns kp => ?_) S.co S.gen S.kind
  obtain ⟨cl, cld, csl, hcell⟩ := R.cell
  have hcB := e0.bs cc _ (e0.mod.kin _ _ hcell)
  have hC0 : NdefX.CellsAt [("__class__", cc)] ["__class__"] [none] s.heap H := by
    have one : ∀ {y c}, ([("__class__", cc)] : List (Str × Addr)).lookup y = some c → y = "__class__" ∧ c = cc := fun {y c} e => by
      rw [lookup_put' y] at e
      by_cases q : y = "__class__"
      · rw [if_pos q] at e
        exact ⟨q, (Option.some.inj e).symm⟩
      · rw [if_neg q] at e
        cases e
    refine ⟨rfl, fun y c e => ?_, fun x y c e1 e2 => ?_, fun i y e => ?_⟩
    · obtain ⟨_, rfl⟩ := one e
      exact ⟨hcB.2, _, _, hcB.1, rfl⟩
    · rw [(one e1).1, (one e2).1]
    · cases i with
      | zero =>
        cases e
        exact ⟨cc, rfl, fun v z => by cases z⟩
      | succ i => cases e
  have I : Inv (NdefX.ncx CX P w K mg base ["self", px, "__class__"] ⟨"__init__", qual, args, body, scope, [("__class__", cc)], cda⟩ f A outer s H E) [] (NdefX.startF ["self", px, "__class__"] [.ref a, y] [none]) H { s with heap := h₁, toks := s.toks + ((["self", px] : List Str).zip [Value.ref a, u2]).length } :=
    NdefX.inv_startN S hr.hd e0 rfl (.cons rfl (.cons ry .nil)) hC0 hns kp
  obtain ⟨mb, hb1, hb2⟩ := e0.mod.blt
  have msup : mg ("super" : Str) = none := PySem.W.mg_none_of e0.mod.kin e0.mod.glob R.free
  obtain ⟨ccl, cdd, vs5, ccs, file, tf, hcode, hvs, hfile⟩ := R.file
  obtain ⟨nm, q, N, bs, bm, sn, sub, ab, col, dd, k0, k1, k2, k3, k5, lC, hbm⟩ := R.T.cls
  generalize hs1 : ({ s with heap := h₁, toks := s.toks + ((["self", px] : List Str).zip [Value.ref a, u2]).length } : Shared) = s1 at I
  have eh : s1.heap = h₁ := by rw [← hs1]
  clear hs1
  obtain ⟨hp1, g1, d1, tk1, os1⟩ := s1
  obtain rfl : hp1 = h₁ := eh
  have X1 : K.In hp1 := I.kIn
  have hC1 := X1 _ _ lC
  obtain ⟨t1, ho⟩ := exo_at I.hok ha
  have clsI : PySem.W.clsIn K C = some { name := nm, bases := bs, mro := .ref C :: bm, ns := N, qualname := q, hasDict := true, slotNames := sn, subclasses := sub, abstract := ab, collection := col, hasDel := false } := by
    unfold PySem.W.clsIn
    rw [lC]
  subst hbd
  refine ks_wpAt_execs_cons (ks_wpAt_Expr_any (ks_wpAt_MethodCall ?_ (he _)) ?hi)
  case hi =>
    have nin : ∀ env : Env, env.scope.kind = .function → interactive env = false := fun env h => by
      unfold interactive
      rw [h]
      rfl
    exact nin _ S.kind
  refine ks_wpAt_super_base hks hkc rfl rfl (X1 _ _ lk) rfl hpa rfl (X1 _ _ hcode) rfl hvs hfile R.top ?_
  refine PySem.W.ks_loadName_global S.kind hks (Calls.loadGlobal_builtin (e0.mod.glob.keeps I.bk) msup (hb1.keeps I.bk) ((hb2 _ (by decide)).trans rfl) ⟨rfl, ?_⟩)
  refine wpAny_loadName_free (c := cc) (v := .ref C) S.kind hkc rfl ⟨_, X1 _ _ hcell, rfl⟩ ?_
  rw [har]
  have look : ((["self", px] : List Str).zip [Value.ref a, u2]).reverse.lookup ("self" : Str) = some (Value.ref a) := by
    show ([(px, u2), ("self", Value.ref a)] : List (Str × Value)).lookup ("self" : Str) = _
    rw [lookup_put', if_neg (Ne.symm hxs), lookup_put', if_pos rfl]
  refine wpAny_loadName_local (v := .ref a) S.kind hka hns look ?_
  refine ks_wpAny_isType_cls hC1 rfl ⟨rfl, ?_⟩
  refine ks_wpAny_call_super hC1 rfl ho rfl (fun c z => by cases z) (looks_mroIn X1 R.mro) (fun h2 eso kp2 => ?_)
  -- the bound __init__
  have I2 := I.kept (t' := tk1) kp2
  have X2 : K.In h2 := I2.kIn
  have ho2 := kp2 _ _ ho
  have hC2 := X2 _ _ lC
  have aC : a ≠ C := cls_ne ho2 hC2 rfl
  have sup : PySem.W.alongIn K "__init__" (((Value.ref C :: bm).dropWhile (· != .ref C)).drop 1) = some (some (.builtin "ValueError.__init__")) := by
    have z := R.sup
    unfold PySem.W.ks_superIn at z
    rw [clsI] at z
    exact z
  have inst : Looks (model P w) h2 (isInstance (.ref a) (.type "ValueError")) true := (show PySem.W.InstAt h2 a (HandSPX.excO C t1) C none from ⟨ho2, rfl, rfl, trivial⟩).type.andThen (looks_subIn X2 R.ve)
  refine PySem.W.kxs_getMethod kxs_ValueError eso (looks_opaque X2 R.third) ((looks_clsIn X2 clsI).andThen .now) rfl X2 sup inst aC rfl ?_
  have I3 := I2.kept (t' := tk1 + 1) (h' := h2.push (kxs_mw "ValueError.__init__" a)) fun b o e => Heap.get?_push_of_some _ e
  have eU : (h2.push (kxs_mw "ValueError.__init__" a)).get? h2.objs.size = some (kxs_mw "ValueError.__init__" a) := Heap.get?_push_size _ rfl
  have I4 := I3.pins_of (pins' := [(h2.objs.size, kxs_mw "ValueError.__init__" a)]) fun p hp => by
    obtain rfl := List.mem_singleton.mp hp
    exact ⟨eU, I2.hok.fresh (Nat.le_refl _), Nat.ne_of_gt I2.lt, I2.nofs (Nat.le_refl _), fun v z => by cases z⟩
  refine PySem.W.kxs_callWith (i := "ValueError.__init__") (x := a) rfl (Calls.evalArgs_plain (x := eval (.Constant (.str msg) j p3) _) (rest := backTo p4 (starEach [] _)) ?_)
  refine thn ((pa_cons (pe_str (j := j) (pos := p3)) pa_nil).run p4 _ _ _ H (fun vs H1 => vs = [.str msg] ∧ H1 = H) I4 ⟨rfl, rfl⟩) fun us5 s5 hh => ?_
  obtain ⟨vs6, H6, I5, r5, e6, e7⟩ := hh
  subst e6 e7
  have pin := (I5.pin _ (List.mem_append.mpr (.inr List.mem_cons_self))).1
  refine ⟨pin, ?_⟩
  obtain ⟨t5, ho5⟩ := exo_at I5.hok ha
  have X5 := I5.kIn
  have lu : us5.length = 1 := r5.length.symm
  obtain ⟨hp5, g5, d5, tk5, os5⟩ := s5
  refine mw_call (X5 _ _ lC) ho5 pin (by show ([] ++ us5).length ≤ sizeLine; rw [List.nil_append, lu]; decide) fun h6 t6 kp6 eo6 => ?_
  have J := I5.write (t' := tk5) (x := a) (e := a) (o := exo a C none) (by rw [ha]; exact True.intro) (.inl rfl) kp6 ⟨_, eo6⟩ (exo_ok eo6)
  have eu : upd H6 a (exo a C none) = H6 := by
    funext b
    by_cases z : b = a
    · rw [z, upd_same, ha]
    · rw [upd_ne z]
  rw [eu] at J
  refine wpAt_of_wpAny ?_
  have fin : PSs (NdefX.ncx CX P w K mg base ["self", px, "__class__"] ⟨"__init__", qual, args, [.Expr (.Call (.Attribute (.Call (.Name "super" p0) [] [] p1) "__init__" p2) [.Constant (.str msg) j p3] [] p4) p5, .Assign [.Attribute (.Name "self" p6) fl p7] (.Name px p8) p9], scope, [("__class__", cc)], cda⟩ f A outer s H6 E)
      [.Assign [.Attribute (.Name "self" p6) fl p7] (.Name px p8) p9] (tSeq (tOst K fl (tVar 0) (tVar 1)) tNext) := pss_one (ps_ost (pe_var rfl (.inl hka)) (pe_var rfl (.inl hkx) hxd hxc))
  refine wpAny_mono (fin.run [] _ _ H6 { nx := fun _ H' => Q .non H', rt := Q } (J.pins_of (pins' := []) fun p hp => absurd hp (by simp)) ⟨y, rfl, .ref a, rfl, a, C, rfl, R.T, hno, .inl ⟨ha, go⟩⟩) (fun flw s' hs => ?_) fun e s' hs => hs
  have last : ∀ {σ' : L2.St} {H' : Hp} {v : V} {u : Value}, Inv (NdefX.ncx CX P w K mg base ["self", px, "__class__"] ⟨"__init__", qual, args, [.Expr (.Call (.Attribute (.Call (.Name "super" p0) [] [] p1) "__init__" p2) [.Constant (.str msg) j p3] [] p4) p5, .Assign [.Attribute (.Name "self" p6) fl p7] (.Name px p8) p9], scope, [("__class__", cc)], cda⟩ f A outer s H6 E) [] σ' H' s' → RelV v u → Q v H' → CE outer P w H6 s Q u s' :=
    fun {σ' H' v u} M rv q => ⟨v, H', M.os, M.bare, M.base, M.hok, rv, q⟩
  cases flw with
  | ret u =>
    obtain ⟨v, σ', H', M, rv, q⟩ := hs
    exact last M rv q
  | next =>
    obtain ⟨σ', H', M, q⟩ := hs
    exact last (v := V.non) (u := Value.none) M rfl q
  | brk =>
    obtain ⟨_, _, _, q⟩ := hs
    exact q.elim
  | cont =>
    obtain ⟨_, _, _, q⟩ := hs
    exact q.elim
end
end CiX

set_option Elab.async false
set_option linter.all false
set_option maxRecDepth 100000
set_option maxHeartbeats 4000000
/-! Own rules over the hand layer: enumerate of a tuple, zip of a tuple and a list, x in a tuple of data. -/
namespace CiR
open PySem PySem.Spec PyProof.Rows L2

/-! ### enumerate(tuple) -/
theorem meets_enumT (l : Addr) (items : Array Value) :
    Meets (Builtin.«enumerate.__new__» ⟨[.type "enumerate", .ref l], []⟩) (fun _ R s => s.heap.IsTuple l items ∧
      R (.ok (.ret (.ref (s.heap.push { cls := .type "tuple_iterator", data := .fields #[.ref l, .int 0 0] }).objs.size)))
        { s with heap := (s.heap.push { cls := .type "tuple_iterator", data := .fields #[.ref l, .int 0 0] }).push { cls := .type "enumerate", data := .fields #[.none, .bool false, .ref s.heap.objs.size, rawInt 0, .none, .none] } }) :=
  .of_wp fun prog w A R s h => by
    obtain ⟨hp, g, d, tk, os⟩ := s; obtain ⟨h1, h⟩ := h
    have hsub := sub_enumerate
    have q1 : ∀ {A' : Around} {E : Value → Shared → Prop} {Q : Value → Shared → Prop}, Q (.ref hp.objs.size) ⟨hp.push { cls := .type "tuple_iterator", data := .fields #[.ref l, .int 0 0] }, g, d, tk, os⟩ → wpAny (model prog w) A' (pyIter (.ref l)) Q E ⟨hp, g, d, tk, os⟩ :=
      fun q => wpAny_pyIter_tuple (s := ⟨hp, g, d, tk, os⟩) h1 q
    obtain ⟨o, ho, hc, n, hd⟩ := id h1
    wp_walk using AutoSeq1.wpAny_loadPart' ho, q1
    refine wpAny_stack_any fun st => wpAny_pure ?_
    split
    · rename_i c _ _ _ _ _
      cases (c == Value.type "enumerate")
      · wp_walk using q1
        exact ⟨_, rfl, h⟩
      · wp_walk using q1
        exact ⟨_, rfl, h⟩
    · wp_walk using q1
      exact ⟨_, rfl, h⟩
section
variable {prog : Program} {w : World} {A : Around} {E : Value → Shared → Prop} {s : Shared}
theorem call_enumT {l : Addr} {items : Array Value} {Q : Value → Shared → Prop} (hL : s.heap.IsTuple l items)
    (h : ∀ h', IsEnum h' (s.heap.objs.size + 1) s.heap.objs.size 0 .none → h'.IsTupleIter s.heap.objs.size l 0 → h'.objs.size = s.heap.objs.size + 2 →
      (∀ b o, s.heap.get? b = some o → h'.get? b = some o) → Q (.ref (s.heap.objs.size + 1)) { s with heap := h' }) :
    wpAny (model prog w) A (call (.type "enumerate") [.ref l]) Q E s := by
  refine callType_new F.called_enumerate (by decide) (F.typeCall_enumerate_1 _) (F.newCall_enumerate_1 _) (fun obj => F.args_object_init_2 obj _) F.entry_enumerate_new
    (meets_enumT l items) ⟨hL, ?_⟩
  have hz : (s.heap.push { cls := .type "tuple_iterator", data := .fields #[.ref l, .int 0 0] }).objs.size = s.heap.objs.size + 1 := Heap.size_push ..
  show _ ∧ _
  rw [hz]
  have he : IsEnum ((s.heap.push { cls := .type "tuple_iterator", data := .fields #[.ref l, .int 0 0] }).push
      { cls := .type "enumerate", data := .fields #[.none, .bool false, .ref s.heap.objs.size, rawInt 0, .none, .none] }) (s.heap.objs.size + 1) s.heap.objs.size 0 .none := by
    have := Heap.get?_push_size (s.heap.push { cls := .type "tuple_iterator", data := .fields #[.ref l, .int 0 0] })
      (o := { cls := .type "enumerate", data := .fields #[.none, .bool false, .ref s.heap.objs.size, rawInt 0, .none, .none] }) rfl
    rw [hz] at this; exact this
  refine ⟨⟨_, he, rfl⟩, h _ he ⟨_, Heap.get?_push_of_some _ (Heap.get?_push_size _ rfl), rfl, rfl⟩ (by rw [Heap.size_push, hz]) fun b o x => Heap.get?_push_of_some _ (Heap.get?_push_of_some _ x)⟩
end
/-- the tuple at a as it stands, in pairs with the turn's number -/
def IteT (K : PySem.W.Frag) (a : Addr) : It :=
  ⟨fun i H => ∃ (xs : List V) (x : V), SqT K H a xs ∧ xs[i]? = some x, fun i H v H' => ∃ T x, v = .ref T ∧ H T = none ∧ H' = upd H T (.tup [.int (i : Nat), x]) ∧ ∀ xs, SqT K H a xs → xs[i]? = some x, fun i H => ∃ xs : List V, SqT K H a xs ∧ xs.length = i⟩
theorem turn_enumT {P : Program} {w : World} {K : PySem.W.Frag} {elts : List Expr} {kk : Nat} {tpos : Pos} (a e it : Addr) :
    Turn P w K (.Tuple elts kk tpos) (IteT K a) [e, it] e (fun i h => (∃ old, IsEnum h e it ((i : Nat) : Int) old) ∧ h.IsTupleIter it a i ∧ e ≠ it ∧ a ≠ e ∧ a ≠ it) where
  mem := by simp
  obj := fun i h st b hb => by
    obtain ⟨⟨old, he⟩, ⟨o, ho, hc, hd⟩, _⟩ := st
    have e' : b = e ∨ b = it := by simpa using hb
    rcases e' with z | z
    · rw [z]; exact ⟨_, he, fun v q => nomatch q⟩
    · rw [z]; exact ⟨o, ho, fun v q => by rw [hd] at q; cases q⟩
  keep := fun i h h' st k => let ⟨⟨old, he⟩, hi, hne⟩ := st; ⟨⟨old, k e (by simp) _ he⟩, hi.at fun o q => k it (by simp) o q, hne⟩
  item := by
    intro X hP hw hK hc i pins s σ H E I hf st hg
    subst hP hw hK
    obtain ⟨⟨old, he⟩, hit, hne, hae, hai⟩ := st
    obtain ⟨xs, x, hq, hx⟩ := hg
    obtain ⟨its, rv, p, hz⟩ := I.tuple hq
    obtain ⟨u, hu, ru⟩ := rv.get hx
    have hel : e < s.heap.objs.size := Heap.lt_size he
    have hil : it < s.heap.objs.size := by obtain ⟨_, q, _⟩ := hit; exact Heap.lt_size q
    have hxl : i < its.toArray.size := by
      have := (List.getElem?_eq_some_iff.mp hu).1
      simpa using this
    refine wpAny_pyNext_enum_itemD (Draws.tuple (A := X.A.in1) (I.ok.hd hc) it a hai its.toArray) he ⟨hit, show s.heap.IsTuple a its.toArray from p⟩ hxl hne (by simp [hne, Ne.symm hae]) fun y h' tk hy ho hst hT hsz hk => ?_
    have ey : y = u := by
      have h1 : its[i]? = some y := by simpa using hy
      rw [hu] at h1
      exact (Option.some.inj h1).symm
    subst ey
    refine ⟨_, rfl, wpAny_letOwnedTupleGo_enum (s := { s with heap := h', toks := tk + 1 }) ho fun h'' he' sb => ?_⟩
    have hT2 : h''.get? s.heap.objs.size = some { cls := .type "tuple", data := .seq #[.int i tk, y] } := (sb.2 _ (Nat.ne_of_gt hel)).trans hT
    have new : ObjOk X.prog X.w (upd H s.heap.objs.size (.tup [.int (i : Nat), x])) h'' s.heap.objs.size (.tup [.int (i : Nat), x]) :=
      ⟨by show 2 ≤ sizeLine; decide, [.int i tk, y], .cons ⟨_, rfl⟩ (.cons ru .nil), ⟨_, hT2, rfl, _, rfl⟩⟩
    have I1 : Inv X pins σ (upd H s.heap.objs.size (.tup [.int (i : Nat), x])) { s with heap := h'', toks := tk + 1 } :=
      I.turnedNew (ch := [e, it]) (fun b ob hb q => (sb.2 b (fun z => hb (by simp [z]))).trans (hk b ob (fun z => hb (by simp [z])) (fun z => hb (by simp [z])) q)) hf (Nat.le_refl _) new
    refine ⟨.ref s.heap.objs.size, _, I1, rfl, ⟨_, x, rfl, I.hok.fresh (Nat.le_refl _), rfl, fun ys hy => by rw [I.tuple_inj hy hq]; exact hx⟩, ⟨⟨y, ?_⟩, hst.1.at fun o q => (sb.2 it (Ne.symm hne)).trans q, hne, hae, hai⟩, fun b hb => ?_⟩
    · have e1 : ((i + 1 : Nat) : Int) = (i : Int) + 1 := by omega
      rw [e1]; exact he'
    · have hb' : b < s.heap.objs.size := by
        have e' : b = e ∨ b = it := by simpa using hb
        rcases e' with z | z
        · rw [z]; exact hel
        · rw [z]; exact hil
      rw [upd_ne (Nat.ne_of_lt hb')]
      exact (hf b hb).1
  done := by
    intro X hP hw hK hc i pins s σ H E I hf st hg
    subst hP hw hK
    obtain ⟨⟨old, he⟩, hit, hne, hae, hai⟩ := st
    obtain ⟨xs, hq, hx⟩ := hg
    obtain ⟨its, rv, p, hz⟩ := I.tuple hq
    obtain ⟨f0, f1, f2, f3, f4, f5⟩ := hf it (by simp)
    have hl := rv.length
    have el : its.toArray.size = i := by simp; omega
    refine wpAny_pyNext_enum_endD (Draws.tuple (A := X.A.in1) (I.ok.hd hc) it a hai its.toArray) he (by rw [el]; exact ⟨hit, show s.heap.IsTuple a its.toArray from p⟩) fun h' eb => ⟨rfl, I.turned (t' := s.toks) (fun b o hb q => eb b o hb q) f0 f1 f3 f4 f5⟩
  self := fun A i s Q E st h => let ⟨⟨_, he⟩, _⟩ := st; wpAny_pyIter_enum he h
def iEnumT (K : PySem.W.Frag) (ta : TA) : TI := fun σ H R => ta σ H fun vs H1 => ∃ a xs, vs = [.ref a] ∧ SqT K H1 a xs ∧ R (IteT K a) H1
theorem pi_enumT {X : Cx} {e : Expr} {ta : TA} {p pos tpos : Pos} {elts : List Expr} {kk : Nat} (hg : Gl X "enumerate") (hm : X.mg "enumerate" = none) (ha : PA X [e] ta) (hs : starEach [e] X.env = [(false, eval e X.env)] := by rfl) :
    PI X (.Tuple elts kk tpos) (.Call (.Name "enumerate" p) [e] [] pos) (iEnumT X.K ta) := by
  refine ⟨fun pins s σ H R I h => ?_⟩
  refine Call_ (ld_blt I hg hm boot_enumerate (PyProof.Rows.callWith_type1 (thn (ha.run pos pins s σ H _ I h) fun us s1 ⟨vs, H1, I1, r1, q1⟩ => ?_) hs rfl))
  obtain ⟨a, xs, ex, hq, q⟩ := q1
  subst ex
  cases r1 with
  | cons r rr =>
    cases rr
    cases r
    obtain ⟨its, rv, p', hz⟩ := I1.tuple hq
    have hal : a < s1.heap.objs.size := p'.lt
    refine call_enumT (show s1.heap.IsTuple a its.toArray from p') fun h' he hit hsz hk => wpAny_pyIter_enum he ?_
    have I2 : Inv X pins σ H1 { s1 with heap := h' } := I1.kept (t' := s1.toks) hk
    refine ⟨s1.heap.objs.size + 1, [s1.heap.objs.size + 1, s1.heap.objs.size], _, _, H1, rfl, I2, turn_enumT a (s1.heap.objs.size + 1) s1.heap.objs.size, ⟨⟨.none, he⟩, hit, Nat.succ_ne_self _, Nat.ne_of_lt (Nat.lt_succ_of_lt hal), Nat.ne_of_lt hal⟩, fun b hb => ?_, q⟩
    have e' : b = s1.heap.objs.size + 1 ∨ b = s1.heap.objs.size := by simpa using hb
    have hle : s1.heap.objs.size ≤ b := by
      rcases e' with z | z
      · rw [z]; exact Nat.le_add_right _ _
      · rw [z]; exact Nat.le_refl _
    exact I1.fpOk hle (I1.hok.fresh hle)
theorem walk_enumT {K : PySem.W.Frag} {a : Addr} {xs : List V} : Walk (IteT K a) xs.length (fun H => SqT K H a xs) (YPair (fun i => some (.int (i : Nat))) (fun i => xs[i]?)) := by
  refine ⟨fun i _ hi q => ⟨xs, xs[i], q, by simp [hi]⟩, fun _ q => ⟨xs, q, rfl⟩, fun i H v H' _ q y => ?_⟩
  obtain ⟨T, x, h1, h2, h3, h4⟩ := y
  exact ⟨T, .int (i : Nat), x, h1, h2, h3, rfl, h4 xs q⟩

/-! ### x in a tuple of data -/
def rInT (K : PySem.W.Frag) : R2 := fun x y H Q => ∃ d ds, Dp K H x d ∧ Dp K H y (.tuple ds) ∧ SeqAt.shaped d = true ∧ SeqAt.shaped (.tuple ds) = true ∧ Q (.bl (ds.any fun z => PyData.eqv z d)) H
theorem op_inT {X : Cx} (hu : X.A.units + 65 < cLine) : OpR X (compareOp .In) (rInT X.K) := by
  intro pins s σ H x y v u Q I rx ry h
  obtain ⟨d, ds, hd, he, sd, se, q⟩ := h
  obtain ⟨as, r1⟩ := Dp.reads I d x v hd rx
  obtain ⟨bs, r2⟩ := Dp.reads I (.tuple ds) y u he ry
  exact SeqAt.in_tuple_reads r2 r1 (SeqAt.canLay_of_shaped se) (SeqAt.canLay_of_shaped sd) (room_in_shaped sd hu) ⟨.bl _, H, I, rfl, q⟩
/-! ### zip(tuple, list) -/
/-- the tuple at a and the list at b as they stand at each turn, the items in new pairs -/
def ItzM (K : PySem.W.Frag) (a b : Addr) : It :=
  ⟨fun i H => ∃ (xs ys : List V) (x y : V), SqT K H a xs ∧ SqL K H b ys ∧ xs[i]? = some x ∧ ys[i]? = some y,
    fun i H v H' => ∃ T x y, v = .ref T ∧ H T = none ∧ H' = upd H T (.tup [x, y]) ∧ (∀ xs, SqT K H a xs → xs[i]? = some x) ∧ ∀ ys, SqL K H b ys → ys[i]? = some y,
    fun i H => ∃ xs ys : List V, SqT K H a xs ∧ SqL K H b ys ∧ i ≤ xs.length ∧ i ≤ ys.length ∧ (i = xs.length ∨ i = ys.length)⟩
theorem turn_zipM {P : Program} {w : World} {K : PySem.W.Frag} {elts : List Expr} {kk : Nat} {tpos : Pos} {a b z TI TO i1 i2 : Addr} (D : ZipSep2 z TI TO i1 i2 [i1, a] [i2, b]) :
    Turn P w K (.Tuple elts kk tpos) (ItzM K a b) [z, TI, TO, i1, i2] z (fun i h => IsZip h z TI TO .none ∧ IsTupOf2 h TI (.ref i1) (.ref i2) ∧ (∃ x y, IsTupOf2 h TO x y) ∧ h.IsTupleIter i1 a i ∧ h.IsListIter i2 b i ∧ a ≠ i1 ∧ b ≠ i2) where
  mem := by simp
  obj := fun i h st c hc => by
    obtain ⟨hz, hTI, ⟨x, y, hTO⟩, ⟨o1, e1, _, d1⟩, ⟨o2, e2, _, d2⟩, _⟩ := st
    have e' : c = z ∨ c = TI ∨ c = TO ∨ c = i1 ∨ c = i2 := by simpa using hc
    rcases e' with q | q | q | q | q
    · rw [q]; exact ⟨_, hz, fun v q => nomatch q⟩
    · rw [q]; exact ⟨_, hTI, fun v q => nomatch q⟩
    · rw [q]; exact ⟨_, hTO, fun v q => nomatch q⟩
    · rw [q]; exact ⟨o1, e1, fun v q => by rw [d1] at q; cases q⟩
    · rw [q]; exact ⟨o2, e2, fun v q => by rw [d2] at q; cases q⟩
  keep := fun i h h' st k => by
    obtain ⟨hz, hTI, ⟨x, y, hTO⟩, h1, h2, ne⟩ := st
    exact ⟨k z (by simp) _ hz, k TI (by simp) _ hTI, ⟨x, y, k TO (by simp) _ hTO⟩, h1.at fun o q => k i1 (by simp) o q, h2.at fun o q => k i2 (by simp) o q, ne⟩
  item := by
    intro X hP hw hK hc i pins s σ H E I hf st hg
    subst hP hw hK
    obtain ⟨hz, hTI, ⟨x0, y0, hTO⟩, h1, h2, na, nb⟩ := st
    obtain ⟨xs, ys, x, y, hqx, hqy, hx, hy⟩ := hg
    obtain ⟨its, rv, p, _⟩ := I.tuple hqx
    obtain ⟨its2, rv2, p2, _⟩ := I.list hqy
    obtain ⟨u, hu, ru⟩ := rv.get hx
    obtain ⟨u2, hu2, ru2⟩ := rv2.get hy
    have hzl : z < s.heap.objs.size := Heap.lt_size hz
    have l1 : i < its.toArray.size := by
      have := (List.getElem?_eq_some_iff.mp hu).1
      simpa using this
    have l2 : i < its2.toArray.size := by
      have := (List.getElem?_eq_some_iff.mp hu2).1
      simpa using this
    refine wpAny_pyNext_zipD2_item D (Draws.tuple (A := X.A.in1) (I.ok.hd hc) i1 a na its.toArray) (Draws.list (A := X.A.in1) (I.ok.hd hc) i2 b nb its2.toArray) hz hTI hTO ⟨h1, show s.heap.IsTuple a its.toArray from p⟩ ⟨h2, p2.isList⟩ l1 l2 fun y1 y2 h' tk q1 q2 z' TO' s1 s2 hT hsz hk => ?_
    have e1 : y1 = u := by
      have h1 : its[i]? = some y1 := by simpa using q1
      rw [hu] at h1
      exact (Option.some.inj h1).symm
    have e2 : y2 = u2 := by
      have h1 : its2[i]? = some y2 := by simpa using q2
      rw [hu2] at h1
      exact (Option.some.inj h1).symm
    subst e1 e2
    refine ⟨_, rfl, wpAny_letOwnedTupleGo_zip (s := { s with heap := h', toks := tk }) z' fun h'' z'' sb => ?_⟩
    have hT2 : h''.get? s.heap.objs.size = some { cls := .type "tuple", data := .seq #[y1, y2] } := (sb.2 _ (Nat.ne_of_gt hzl)).trans hT
    have new : ObjOk X.prog X.w (upd H s.heap.objs.size (.tup [x, y])) h'' s.heap.objs.size (.tup [x, y]) :=
      ⟨by show 2 ≤ sizeLine; decide, [y1, y2], .cons ru (.cons ru2 .nil), ⟨_, hT2, rfl, _, rfl⟩⟩
    have I1 : Inv X pins σ (upd H s.heap.objs.size (.tup [x, y])) { s with heap := h'', toks := tk } :=
      I.turnedNew (ch := [z, TI, TO, i1, i2]) (fun c o hb q => (sb.2 c (fun q' => hb (by simp [q']))).trans (hk c o (fun q' => hb (by simp [q'])) (fun q' => hb (by simp [q'])) (fun q' => hb (by simp [q'])) (fun q' => hb (by simp [q'])) q)) hf (Nat.le_refl _) new
    refine ⟨.ref s.heap.objs.size, _, I1, rfl, ⟨_, x, y, rfl, I.hok.fresh (Nat.le_refl _), rfl, fun l hl => by rw [I.tuple_inj hl hqx]; exact hx, fun l hl => by rw [I.list_inj hl hqy]; exact hy⟩, ⟨z'', ?_, ⟨y1, y2, ?_⟩, ?_, ?_, na, nb⟩, fun c hcm => ?_⟩
    · exact (sb.2 _ D.TIz).trans (hk _ _ D.TIz D.TITO D.TIi1 D.TIi2 hTI)
    · exact (sb.2 _ D.TOz).trans TO'
    · exact s1.1.at fun o q => (sb.2 _ (Ne.symm D.zi1)).trans q
    · exact s2.1.at fun o q => (sb.2 _ (Ne.symm D.zi2)).trans q
    · have hlt : c < s.heap.objs.size := by
        have e' : c = z ∨ c = TI ∨ c = TO ∨ c = i1 ∨ c = i2 := by simpa using hcm
        rcases e' with q | q | q | q | q
        · rw [q]; exact hzl
        · rw [q]; exact Heap.lt_size hTI
        · rw [q]; exact Heap.lt_size hTO
        · rw [q]; obtain ⟨_, e1, _⟩ := h1; exact Heap.lt_size e1
        · rw [q]; obtain ⟨_, e2, _⟩ := h2; exact Heap.lt_size e2
      rw [upd_ne (Nat.ne_of_lt hlt)]
      exact (hf c hcm).1
  done := by
    intro X hP hw hK hc i pins s σ H E I hf st hg
    subst hP hw hK
    obtain ⟨hz, hTI, ⟨x0, y0, hTO⟩, h1, h2, na, nb⟩ := st
    obtain ⟨xs, ys, hqx, hqy, le1, le2, hend⟩ := hg
    obtain ⟨its, rv, p, _⟩ := I.tuple hqx
    obtain ⟨its2, rv2, p2, _⟩ := I.list hqy
    have l1 := rv.length
    have l2 := rv2.length
    refine wpAny_pyNext_zipD2_end D (Draws.tuple (A := X.A.in1) (I.ok.hd hc) i1 a na its.toArray) (Draws.list (A := X.A.in1) (I.ok.hd hc) i2 b nb its2.toArray) hz hTI hTO ⟨h1, show s.heap.IsTuple a its.toArray from p⟩ ⟨h2, p2.isList⟩ (by simp; omega) (by simp; omega) ?_ fun h' tk hk => ⟨rfl, I.turnedL (t' := tk) (ch := [z, TI, TO, i1, i2]) (fun c o hb q =>
      hk c o (fun q' => hb (by simp [q'])) (fun q' => hb (by simp [q'])) (fun q' => hb (by simp [q'])) (fun q' => hb (by simp [q'])) q) hf⟩
    rcases hend with q | q
    · left; simp; omega
    · right; simp; omega
  self := fun A i s Q E st h => wpAny_pyIter_zip st.1 h
def iZipM (K : PySem.W.Frag) (ta : TA) : TI := fun σ H R => ta σ H fun vs H1 => ∃ a b xs ys, vs = [.ref a, .ref b] ∧ SqT K H1 a xs ∧ SqL K H1 b ys ∧ R (ItzM K a b) H1
theorem pi_zipM {X : Cx} {e e2 : Expr} {ta : TA} {p pos tpos : Pos} {elts : List Expr} {kk : Nat} (hg : Gl X "zip") (hm : X.mg "zip" = none) (ha : PA X [e, e2] ta)
    (hs : starEach [e, e2] X.env = (false, eval e X.env) :: starEach [e2] X.env := by rfl) (hpl : (backTo pos (starEach [e2] X.env)).any (·.1) = false := by rfl) :
    PI X (.Tuple elts kk tpos) (.Call (.Name "zip" p) [e, e2] [] pos) (iZipM X.K ta) := by
  refine ⟨fun pins s σ H R I h => ?_⟩
  refine Call_ (ld_blt I hg hm PyProof.Rows.boot_zip (PyProof.Rows.callWith_type1 (thn (ha.run pos pins s σ H _ I h) fun us s1 ⟨vs, H1, I1, r1, q1⟩ => ?_) hs hpl))
  obtain ⟨a, b, xs, ys, ex, hqx, hqy, q⟩ := q1
  subst ex
  cases r1 with
  | cons r rr =>
    cases rr with
    | cons r' rr =>
      cases rr
      cases r
      cases r'
      obtain ⟨its, rv, p1, _⟩ := I1.tuple hqx
      obtain ⟨its2, rv2, p2, _⟩ := I1.list hqy
      have la : a < s1.heap.objs.size := p1.lt
      have lb : b < s1.heap.objs.size := p2.lt
      refine zip_begins2 (begins_tuple a its.toArray) (begins_list b its2.toArray) (show s1.heap.IsTuple a its.toArray from p1) p2.isList fun h' hz hTI hTO h1 h2 hsz hk => wpAny_pyIter_zip hz ?_
      have I2 : Inv X pins σ H1 { s1 with heap := h' } := I1.kept (t' := s1.toks) hk
      have S : ZipSep2 (s1.heap.objs.size + 4) (s1.heap.objs.size + 2) (s1.heap.objs.size + 3) s1.heap.objs.size (s1.heap.objs.size + 1) [s1.heap.objs.size, a] [s1.heap.objs.size + 1, b] :=
        zip_sep2 (fp1 := [a]) (fp2 := [b]) (fun c hc => by rw [List.mem_singleton.mp hc]; exact la) (fun c hc => by rw [List.mem_singleton.mp hc]; exact lb)
      refine ⟨s1.heap.objs.size + 4, [s1.heap.objs.size + 4, s1.heap.objs.size + 2, s1.heap.objs.size + 3, s1.heap.objs.size, s1.heap.objs.size + 1], _, _, H1, rfl, I2, turn_zipM S, ⟨hz, hTI, ⟨_, _, hTO⟩, ⟨_, h1, rfl, rfl⟩, ⟨_, h2, rfl, rfl⟩, Nat.ne_of_lt la, Nat.ne_of_lt (Nat.lt_succ_of_lt lb)⟩, fun c hcm => ?_, q⟩
      have e' : c = s1.heap.objs.size + 4 ∨ c = s1.heap.objs.size + 2 ∨ c = s1.heap.objs.size + 3 ∨ c = s1.heap.objs.size ∨ c = s1.heap.objs.size + 1 := by simpa using hcm
      have hle : s1.heap.objs.size ≤ c := by
        rcases e' with z | z | z | z | z
        · rw [z]; exact Nat.le_add_right _ _
        · rw [z]; exact Nat.le_add_right _ _
        · rw [z]; exact Nat.le_add_right _ _
        · rw [z]; exact Nat.le_refl _
        · rw [z]; exact Nat.le_add_right _ _
      exact I1.fpOk hle (I1.hok.fresh hle)
theorem walk_zipM {K : PySem.W.Frag} {a b : Addr} {xs ys : List V} {n : Nat} (hn : n = min xs.length ys.length) : Walk (ItzM K a b) n (fun H => SqT K H a xs ∧ SqL K H b ys) (YPair (fun i => xs[i]?) (fun i => ys[i]?)) := by
  subst hn
  refine ⟨fun i _ hi q => ?_, fun _ q => ⟨xs, ys, q.1, q.2, by omega, by omega, by omega⟩, fun i H v H' _ q y => ?_⟩
  · have h1 : i < xs.length := by omega
    have h2 : i < ys.length := by omega
    exact ⟨xs, ys, xs[i], ys[i], q.1, q.2, by simp [h1], by simp [h2]⟩
  · obtain ⟨T, x, z, h1, h2, h3, h4, h5⟩ := y
    exact ⟨T, x, z, h1, h2, h3, h4 xs q.1, h5 ys q.2⟩
end CiR

set_option linter.all false
/-! The mirror: states, tests, rules, events, as plain Lean. -/
namespace Ci
abbrev Val := Option Int
structure St where
  up : Val
  here : Val
  before : Val
  wish : Option Val
  mine : Bool
  deriving DecidableEq
inductive Sp3 where
  | own | above | base
  deriving DecidableEq
inductive Test where
  | same (p q : Sp3) | unlike (p q : Sp3) | there (p : Sp3) | gone (p : Sp3) | mine | free | yes | no
  deriving DecidableEq
inductive Act where
  | take | keep | drop | claim
  deriving DecidableEq
structure Row where
  tests : List Test
  act : Act
  deriving DecidableEq
inductive Way where
  | every | changed
  deriving DecidableEq
inductive Flt where
  | lost | missed
  deriving DecidableEq
inductive Word where
  | change | delete | set | remove | back
  deriving DecidableEq
inductive Evt where
  | val (w : Word) (v : Int) | plain (w : Word) | carry (yes : Bool)
  deriving DecidableEq
/-- the notes that a rule may have -/
structure Nts where
  base : Bool
  mine : Bool
  deriving DecidableEq
def Sp3.okIn (n : Nts) : Sp3 → Bool
  | .base => n.base
  | _ => true
def Test.okIn (n : Nts) : Test → Bool
  | .same p q => p.okIn n && q.okIn n
  | .unlike p q => p.okIn n && q.okIn n
  | .there p => p.okIn n
  | .gone p => p.okIn n
  | .mine => n.mine
  | .free => n.mine
  | .yes => true
  | .no => true
def Row.okIn (n : Nts) (r : Row) : Bool := decide (r.tests.length ≤ 4) && r.tests.all (Test.okIn n)
def Word.valued : Word → Bool
  | .change => true
  | .set => true
  | _ => false
def St.val (s : St) : Sp3 → Val
  | .own => s.here
  | .above => s.up
  | .base => s.before
def St.so (s : St) (yes : Bool) : Test → Bool
  | .same p q => decide (s.val p = s.val q)
  | .unlike p q => !decide (s.val p = s.val q)
  | .there p => (s.val p).isSome
  | .gone p => (s.val p).isNone
  | .mine => s.mine
  | .free => !s.mine
  | .yes => yes
  | .no => !yes
def St.fits (s : St) (yes : Bool) (r : Row) : Bool := r.tests.all (s.so yes)
/-- the index of the first row that fits, from i on -/
def rowIx (s : St) (yes : Bool) : List Row → Nat → Int
  | [], _ => -1
  | r :: rs, i => if s.fits yes r then (i : Int) else rowIx s yes rs (i + 1)
def actOf (s : St) (yes : Bool) : List Row → Act
  | [] => .keep
  | r :: rs => if s.fits yes r then r.act else actOf s yes rs
def St.acted (s : St) : Act → St
  | .take => ⟨s.up, s.up, s.up, s.wish, false⟩
  | .keep => ⟨s.up, s.here, s.up, s.wish, s.mine⟩
  | .drop => ⟨s.up, none, s.up, s.wish, s.mine⟩
  | .claim => ⟨s.up, s.here, s.up, s.wish, true⟩
def St.carried (rows : List Row) (s : St) (yes : Bool) : St := s.acted (actOf s yes rows)
def St.due (s : St) : Way → Val
  | .every => match s.wish with
    | none => s.up
    | some w => w
  | .changed => if s.here = s.before then s.up else s.here
def St.wished (s : St) : Way → Bool
  | .every => s.wish.isSome
  | .changed => !decide (s.here = s.before)
def St.word (s : St) (w : Way) : Flt := if s.wished w then .lost else .missed
def St.faults (s later : St) : List (Way × Flt) := ([Way.changed, Way.every].filter fun w => !decide (later.here = s.due w)).map fun w => (w, s.word w)
def St.edited (s : St) (v : Val) : St := ⟨s.up, v, s.before, some v, true⟩
def St.putBack (s : St) : St := ⟨s.up, s.up, s.up, none, false⟩
def St.changed (s : St) (v : Val) : St := ⟨v, s.here, s.before, s.wish, s.mine⟩
def St.parts (s : St) : List Val := [s.up, s.here, s.before] ++ s.wish.toList
def St.first (v : Val) : St := ⟨v, v, v, none, false⟩
def happened (s : St) (rows : List Row) : Evt → St
  | .carry yes => s.carried rows yes
  | .plain .back => s.putBack
  | .plain .delete => s.changed none
  | .plain .change => s.changed none
  | .plain _ => s.edited none
  | .val .change v => s.changed (some v)
  | .val .delete v => s.changed (some v)
  | .val .back _ => s.putBack
  | .val _ v => s.edited (some v)
end Ci

set_option Elab.async false
set_option linter.all false
set_option maxRecDepth 100000
set_option maxHeartbeats 4000000
/-! Printed by gen_top.py: the text by places, the names by slots, the facts of the head. -/
namespace Ci
open PySem PySem.Spec PyProof.Rows L2
def topS (i : Nat) : Stmt := PySem.Challenge.pw_carriedin_k12_whole_enough_notes.main.body.getD i (.Pass ⟨0, 0, 0, 0⟩)
abbrev s_is_integer : Stmt := topS 16
abbrev n_is_integer : List Str := ["thing"]
theorem sc_is_integer : FnScope n_is_integer ["thing"] (defScope s_is_integer) := ⟨rfl, rfl, rfl, by decide +kernel, rfl, by decide +kernel, by decide +kernel⟩
abbrev s_is_word : Stmt := topS 17
abbrev n_is_word : List Str := ["thing", "words"]
theorem sc_is_word : FnScope n_is_word ["thing", "words"] (defScope s_is_word) := ⟨rfl, rfl, rfl, by decide +kernel, rfl, by decide +kernel, by decide +kernel⟩
abbrev s_are_notes : Stmt := topS 18
abbrev n_are_notes : List Str := ["thing", "note"]
theorem sc_are_notes : FnScope n_are_notes ["thing"] (defScope s_are_notes) := ⟨rfl, rfl, rfl, by decide +kernel, rfl, by decide +kernel, by decide +kernel⟩
abbrev s_is_test : Stmt := topS 19
abbrev n_is_test : List Str := ["notes", "thing", "spot"]
theorem sc_is_test : FnScope n_is_test ["notes", "thing"] (defScope s_is_test) := ⟨rfl, rfl, rfl, by decide +kernel, rfl, by decide +kernel, by decide +kernel⟩
abbrev s_is_row : Stmt := topS 20
abbrev n_is_row : List Str := ["notes", "thing", "test"]
theorem sc_is_row : FnScope n_is_row ["notes", "thing"] (defScope s_is_row) := ⟨rfl, rfl, rfl, by decide +kernel, rfl, by decide +kernel, by decide +kernel⟩
abbrev s_Rule_init : Stmt := inClass (topS 21) 0
abbrev n_Rule_init : List Str := ["self", "notes", "rows", "index", "row"]
theorem sc_Rule_init : FnScope n_Rule_init ["self", "notes", "rows"] (defScope s_Rule_init) := ⟨rfl, rfl, rfl, by decide +kernel, rfl, by decide +kernel, by decide +kernel⟩
abbrev s_Rule_notes : Stmt := inClass (topS 21) 1
abbrev n_Rule_notes : List Str := ["self"]
theorem sc_Rule_notes : FnScope n_Rule_notes ["self"] (defScope s_Rule_notes) := ⟨rfl, rfl, rfl, by decide +kernel, rfl, by decide +kernel, by decide +kernel⟩
abbrev s_Rule_rows : Stmt := inClass (topS 21) 2
abbrev n_Rule_rows : List Str := ["self"]
theorem sc_Rule_rows : FnScope n_Rule_rows ["self"] (defScope s_Rule_rows) := ⟨rfl, rfl, rfl, by decide +kernel, rfl, by decide +kernel, by decide +kernel⟩
abbrev s_Rule_len : Stmt := inClass (topS 21) 3
abbrev n_Rule_len : List Str := ["self"]
theorem sc_Rule_len : FnScope n_Rule_len ["self"] (defScope s_Rule_len) := ⟨rfl, rfl, rfl, by decide +kernel, rfl, by decide +kernel, by decide +kernel⟩
abbrev s_Rule_eq : Stmt := inClass (topS 21) 4
abbrev n_Rule_eq : List Str := ["self", "other"]
theorem sc_Rule_eq : FnScope n_Rule_eq ["self", "other"] (defScope s_Rule_eq) := ⟨rfl, rfl, rfl, by decide +kernel, rfl, by decide +kernel, by decide +kernel⟩
abbrev s_Rule_without : Stmt := inClass (topS 21) 5
abbrev n_Rule_without : List Str := ["self", "index"]
theorem sc_Rule_without : FnScope n_Rule_without ["self", "index"] (defScope s_Rule_without) := ⟨rfl, rfl, rfl, by decide +kernel, rfl, by decide +kernel, by decide +kernel⟩
abbrev s_State_init : Stmt := inClass (topS 29) 0
abbrev n_State_init : List Str := ["self", "above", "own", "base", "wish", "is_mine"]
theorem sc_State_init : FnScope n_State_init ["self", "above", "own", "base", "wish", "is_mine"] (defScope s_State_init) := ⟨rfl, rfl, rfl, by decide +kernel, rfl, by decide +kernel, by decide +kernel⟩
abbrev s_State_value : Stmt := inClass (topS 29) 1
abbrev n_State_value : List Str := ["self", "spot"]
theorem sc_State_value : FnScope n_State_value ["self", "spot"] (defScope s_State_value) := ⟨rfl, rfl, rfl, by decide +kernel, rfl, by decide +kernel, by decide +kernel⟩
abbrev s_State_is_so : Stmt := inClass (topS 29) 2
abbrev n_State_is_so : List Str := ["self", "test", "answer", "word"]
theorem sc_State_is_so : FnScope n_State_is_so ["self", "test", "answer"] (defScope s_State_is_so) := ⟨rfl, rfl, rfl, by decide +kernel, rfl, by decide +kernel, by decide +kernel⟩
abbrev s_State_row_for : Stmt := inClass (topS 29) 3
abbrev n_State_row_for : List Str := ["self", "rule", "answer", "index", "tests", "action", "test"]
theorem sc_State_row_for : FnScope n_State_row_for ["self", "rule", "answer"] (defScope s_State_row_for) := ⟨rfl, rfl, rfl, by decide +kernel, rfl, by decide +kernel, by decide +kernel⟩
abbrev s_State_due : Stmt := inClass (topS 29) 4
abbrev n_State_due : List Str := ["self", "way"]
theorem sc_State_due : FnScope n_State_due ["self", "way"] (defScope s_State_due) := ⟨rfl, rfl, rfl, by decide +kernel, rfl, by decide +kernel, by decide +kernel⟩
abbrev s_State_word : Stmt := inClass (topS 29) 5
abbrev n_State_word : List Str := ["self", "way", "is_wished"]
theorem sc_State_word : FnScope n_State_word ["self", "way"] (defScope s_State_word) := ⟨rfl, rfl, rfl, by decide +kernel, rfl, by decide +kernel, by decide +kernel⟩
abbrev s_State_carried : Stmt := inClass (topS 29) 6
abbrev n_State_carried : List Str := ["self", "rule", "answer", "index", "action", "own", "is_mine"]
theorem sc_State_carried : FnScope n_State_carried ["self", "rule", "answer"] (defScope s_State_carried) := ⟨rfl, rfl, rfl, by decide +kernel, rfl, by decide +kernel, by decide +kernel⟩
abbrev s_State_faults_of : Stmt := inClass (topS 29) 7
abbrev n_State_faults_of : List Str := ["self", "later", "way"]
theorem sc_State_faults_of : FnScope n_State_faults_of ["self", "later"] (defScope s_State_faults_of) := ⟨rfl, rfl, rfl, by decide +kernel, rfl, by decide +kernel, by decide +kernel⟩
abbrev s_State_edited : Stmt := inClass (topS 29) 8
abbrev n_State_edited : List Str := ["self", "value"]
theorem sc_State_edited : FnScope n_State_edited ["self", "value"] (defScope s_State_edited) := ⟨rfl, rfl, rfl, by decide +kernel, rfl, by decide +kernel, by decide +kernel⟩
abbrev s_State_put_back : Stmt := inClass (topS 29) 9
abbrev n_State_put_back : List Str := ["self"]
theorem sc_State_put_back : FnScope n_State_put_back ["self"] (defScope s_State_put_back) := ⟨rfl, rfl, rfl, by decide +kernel, rfl, by decide +kernel, by decide +kernel⟩
abbrev s_State_changed : Stmt := inClass (topS 29) 10
abbrev n_State_changed : List Str := ["self", "value"]
theorem sc_State_changed : FnScope n_State_changed ["self", "value"] (defScope s_State_changed) := ⟨rfl, rfl, rfl, by decide +kernel, rfl, by decide +kernel, by decide +kernel⟩
abbrev s_State_parts : Stmt := inClass (topS 29) 11
abbrev n_State_parts : List Str := ["self"]
theorem sc_State_parts : FnScope n_State_parts ["self"] (defScope s_State_parts) := ⟨rfl, rfl, rfl, by decide +kernel, rfl, by decide +kernel, by decide +kernel⟩
abbrev s_first_state : Stmt := topS 30
abbrev n_first_state : List Str := ["start"]
theorem sc_first_state : FnScope n_first_state ["start"] (defScope s_first_state) := ⟨rfl, rfl, rfl, by decide +kernel, rfl, by decide +kernel, by decide +kernel⟩
abbrev s_happened : Stmt := topS 31
abbrev n_happened : List Str := ["state", "rule", "event", "word", "value"]
theorem sc_happened : FnScope n_happened ["state", "rule", "event"] (defScope s_happened) := ⟨rfl, rfl, rfl, by decide +kernel, rfl, by decide +kernel, by decide +kernel⟩
abbrev s_words_of : Stmt := topS 34
abbrev n_words_of : List Str := ["events", "word"]
theorem sc_words_of : FnScope n_words_of ["events"] (defScope s_words_of) := ⟨rfl, rfl, rfl, by decide +kernel, rfl, by decide +kernel, by decide +kernel⟩
abbrev s_values_for : Stmt := topS 35
abbrev n_values_for : List Str := ["states", "known", "state", "value", "fresh"]
theorem sc_values_for : FnScope n_values_for ["states"] (defScope s_values_for) := ⟨rfl, rfl, rfl, by decide +kernel, rfl, by decide +kernel, by decide +kernel⟩
abbrev s_events_for : Stmt := topS 36
abbrev n_events_for : List Str := ["states", "words", "found", "word", "value"]
theorem sc_events_for : FnScope n_events_for ["states", "words"] (defScope s_events_for) := ⟨rfl, rfl, rfl, by decide +kernel, rfl, by decide +kernel, by decide +kernel⟩
abbrev s_Walk_init : Stmt := inClass (topS 37) 0
abbrev n_Walk_init : List Str := ["self", "rules", "words", "start", "at", "spot", "events", "event", "later", "rule", "state", "answer"]
theorem sc_Walk_init : FnScope n_Walk_init ["self", "rules", "words"] (defScope s_Walk_init) := ⟨rfl, rfl, rfl, by decide +kernel, rfl, by decide +kernel, by decide +kernel⟩
abbrev s_Walk_reach : Stmt := inClass (topS 37) 1
abbrev n_Walk_reach : List Str := ["self", "spot", "history", "key"]
theorem sc_Walk_reach : FnScope n_Walk_reach ["self", "spot", "history"] (defScope s_Walk_reach) := ⟨rfl, rfl, rfl, by decide +kernel, rfl, by decide +kernel, by decide +kernel⟩
abbrev s_common_key : Stmt := topS 38
abbrev n_common_key : List Str := ["spot", "known", "found", "state", "value"]
theorem sc_common_key : FnScope n_common_key ["spot"] (defScope s_common_key) := ⟨rfl, rfl, rfl, by decide +kernel, rfl, by decide +kernel, by decide +kernel⟩
abbrev s_with_event : Stmt := topS 39
abbrev n_with_event : List Str := ["history", "event"]
theorem sc_with_event : FnScope n_with_event ["history", "event"] (defScope s_with_event) := ⟨rfl, rfl, rfl, by decide +kernel, rfl, by decide +kernel, by decide +kernel⟩
abbrev s_walked : Stmt := topS 40
abbrev n_walked : List Str := ["rule", "words", "walk", "spot", "history"]
theorem sc_walked : FnScope n_walked ["rule", "words"] (defScope s_walked) := ⟨rfl, rfl, rfl, by decide +kernel, rfl, by decide +kernel, by decide +kernel⟩
abbrev s_fault_behind : Stmt := topS 43
abbrev n_fault_behind : List Str := ["rule", "way", "word", "words", "state", "history", "answer"]
theorem sc_fault_behind : FnScope n_fault_behind ["rule", "way", "word", "words"] (defScope s_fault_behind) := ⟨rfl, rfl, rfl, by decide +kernel, rfl, by decide +kernel, by decide +kernel⟩
abbrev s_faults_by : Stmt := topS 44
abbrev n_faults_by : List Str := ["rule", "way", "words", "word"]
theorem sc_faults_by : FnScope n_faults_by ["rule", "way", "words"] (defScope s_faults_by) := ⟨rfl, rfl, rfl, by decide +kernel, rfl, by decide +kernel, by decide +kernel⟩
abbrev s_rules_with : Stmt := topS 49
abbrev n_rules_with : List Str := ["notes", "found"]
theorem sc_rules_with : FnScope n_rules_with ["notes"] (defScope s_rules_with) := ⟨rfl, rfl, rfl, by decide +kernel, rfl, by decide +kernel, by decide +kernel⟩
abbrev s_right_rule_by : Stmt := topS 50
abbrev n_right_rule_by : List Str := ["notes", "way", "words", "rule"]
theorem sc_right_rule_by : FnScope n_right_rule_by ["notes", "way", "words"] (defScope s_right_rule_by) := ⟨rfl, rfl, rfl, by decide +kernel, rfl, by decide +kernel, by decide +kernel⟩
abbrev s_right_rule : Stmt := topS 51
abbrev n_right_rule : List Str := ["notes", "way", "events", "words"]
theorem sc_right_rule : FnScope n_right_rule ["notes", "way", "events"] (defScope s_right_rule) := ⟨rfl, rfl, rfl, by decide +kernel, rfl, by decide +kernel, by decide +kernel⟩
abbrev s_fewest_notes : Stmt := topS 52
abbrev n_fewest_notes : List Str := ["way", "events", "words", "many", "some", "found", "notes"]
theorem sc_fewest_notes : FnScope n_fewest_notes ["way", "events"] (defScope s_fewest_notes) := ⟨rfl, rfl, rfl, by decide +kernel, rfl, by decide +kernel, by decide +kernel⟩
abbrev s_law_mix : Stmt := topS 54
abbrev n_law_mix : List Str := ["_law_script", "_law_seed", "_law_state", "_law_cell"]
theorem sc_law_mix : FnScope n_law_mix ["_law_script", "_law_seed"] (defScope s_law_mix) := ⟨rfl, rfl, rfl, by decide +kernel, rfl, by decide +kernel, by decide +kernel⟩
abbrev s_law_next : Stmt := topS 55
abbrev n_law_next : List Str := ["_law_h", "_law_cap", "_law_cell"]
theorem sc_law_next : FnScope n_law_next ["_law_h", "_law_cap"] (defScope s_law_next) := ⟨rfl, rfl, rfl, by decide +kernel, rfl, by decide +kernel, by decide +kernel⟩
abbrev s_law_alike : Stmt := topS 56
abbrev n_law_alike : List Str := ["_law_found", "_law_due_here", "_law_k"]
theorem sc_law_alike : FnScope n_law_alike ["_law_found", "_law_due_here"] (defScope s_law_alike) := ⟨rfl, rfl, rfl, by decide +kernel, rfl, by decide +kernel, by decide +kernel⟩
abbrev s_law_pick : Stmt := topS 57
abbrev n_law_pick : List Str := ["_law_h", "_law_things"]
theorem sc_law_pick : FnScope n_law_pick ["_law_h", "_law_things"] (defScope s_law_pick) := ⟨rfl, rfl, rfl, by decide +kernel, rfl, by decide +kernel, by decide +kernel⟩
abbrev s_law_new : Stmt := topS 58
abbrev n_law_new : List Str := ["_law_start"]
theorem sc_law_new : FnScope n_law_new ["_law_start"] (defScope s_law_new) := ⟨rfl, rfl, rfl, by decide +kernel, rfl, by decide +kernel, by decide +kernel⟩
abbrev s_law_spot : Stmt := topS 59
abbrev n_law_spot : List Str := ["_law_state", "_law_word"]
theorem sc_law_spot : FnScope n_law_spot ["_law_state", "_law_word"] (defScope s_law_spot) := ⟨rfl, rfl, rfl, by decide +kernel, rfl, by decide +kernel, by decide +kernel⟩
abbrev s_law_so : Stmt := topS 60
abbrev n_law_so : List Str := ["_law_state", "_law_test", "_law_answer"]
theorem sc_law_so : FnScope n_law_so ["_law_state", "_law_test", "_law_answer"] (defScope s_law_so) := ⟨rfl, rfl, rfl, by decide +kernel, rfl, by decide +kernel, by decide +kernel⟩
abbrev s_law_row : Stmt := topS 61
abbrev n_law_row : List Str := ["_law_parts", "_law_state", "_law_answer", "_law_index", "_law_test"]
theorem sc_law_row : FnScope n_law_row ["_law_parts", "_law_state", "_law_answer"] (defScope s_law_row) := ⟨rfl, rfl, rfl, by decide +kernel, rfl, by decide +kernel, by decide +kernel⟩
abbrev s_law_carried : Stmt := topS 62
abbrev n_law_carried : List Str := ["_law_parts", "_law_state", "_law_answer", "_law_index", "_law_action", "_law_later"]
theorem sc_law_carried : FnScope n_law_carried ["_law_parts", "_law_state", "_law_answer"] (defScope s_law_carried) := ⟨rfl, rfl, rfl, by decide +kernel, rfl, by decide +kernel, by decide +kernel⟩
abbrev s_law_done : Stmt := topS 63
abbrev n_law_done : List Str := ["_law_parts", "_law_state", "_law_event", "_law_value"]
theorem sc_law_done : FnScope n_law_done ["_law_parts", "_law_state", "_law_event"] (defScope s_law_done) := ⟨rfl, rfl, rfl, by decide +kernel, rfl, by decide +kernel, by decide +kernel⟩
abbrev s_law_due : Stmt := topS 64
abbrev n_law_due : List Str := ["_law_state", "_law_way"]
theorem sc_law_due : FnScope n_law_due ["_law_state", "_law_way"] (defScope s_law_due) := ⟨rfl, rfl, rfl, by decide +kernel, rfl, by decide +kernel, by decide +kernel⟩
abbrev s_law_key : Stmt := topS 65
abbrev n_law_key : List Str := ["_law_states", "_law_known", "_law_found", "_law_state", "_law_value"]
theorem sc_law_key : FnScope n_law_key ["_law_states"] (defScope s_law_key) := ⟨rfl, rfl, rfl, by decide +kernel, rfl, by decide +kernel, by decide +kernel⟩
abbrev s_law_choices : Stmt := topS 66
abbrev n_law_choices : List Str := ["_law_states", "_law_words_here", "_law_values", "_law_used_here", "_law_state", "_law_fresh", "_law_found", "_law_word", "_law_value"]
theorem sc_law_choices : FnScope n_law_choices ["_law_states", "_law_words_here"] (defScope s_law_choices) := ⟨rfl, rfl, rfl, by decide +kernel, rfl, by decide +kernel, by decide +kernel⟩
abbrev s_law_layers : Stmt := topS 67
abbrev n_law_layers : List Str := ["_law_rules", "_law_words_here", "_law_layers_here", "_law_known", "_law_layer", "_law_fresh", "_law_states", "_law_event", "_law_start", "_law_parts", "_law_state"]
theorem sc_law_layers : FnScope n_law_layers ["_law_rules", "_law_words_here"] (defScope s_law_layers) := ⟨rfl, rfl, rfl, by decide +kernel, rfl, by decide +kernel, by decide +kernel⟩
abbrev s_law_words : Stmt := topS 68
abbrev n_law_words : List Str := ["_law_h", "_law_words_here", "_law_word"]
theorem sc_law_words : FnScope n_law_words ["_law_h"] (defScope s_law_words) := ⟨rfl, rfl, rfl, by decide +kernel, rfl, by decide +kernel, by decide +kernel⟩
abbrev s_law_sight : Stmt := topS 69
abbrev n_law_sight : List Str := ["_law_notes", "_law_state", "_law_spots", "_law_found", "_law_one", "_law_spot_here", "_law_other"]
theorem sc_law_sight : FnScope n_law_sight ["_law_notes", "_law_state"] (defScope s_law_sight) := ⟨rfl, rfl, rfl, by decide +kernel, rfl, by decide +kernel, by decide +kernel⟩
abbrev s_law_conflict : Stmt := topS 70
abbrev n_law_conflict : List Str := ["_law_notes", "_law_way", "_law_words_here", "_law_short", "_law_start", "_law_turn", "_law_longer", "_law_state", "_law_event", "_law_one", "_law_other"]
theorem sc_law_conflict : FnScope n_law_conflict ["_law_notes", "_law_way", "_law_words_here"] (defScope s_law_conflict) := ⟨rfl, rfl, rfl, by decide +kernel, rfl, by decide +kernel, by decide +kernel⟩
abbrev s_law_served : Stmt := topS 71
abbrev n_law_served : List Str := ["_law_due_here", "_law_one", "_law_wanted", "_law_other"]
theorem sc_law_served : FnScope n_law_served ["_law_due_here", "_law_one", "_law_wanted", "_law_other"] (defScope s_law_served) := ⟨rfl, rfl, rfl, by decide +kernel, rfl, by decide +kernel, by decide +kernel⟩
abbrev s_law_faultless : Stmt := topS 72
abbrev n_law_faultless : List Str := ["_law_parts", "_law_way", "_law_words_here", "_law_layer", "_law_states", "_law_answer"]
theorem sc_law_faultless : FnScope n_law_faultless ["_law_parts", "_law_way", "_law_words_here"] (defScope s_law_faultless) := ⟨rfl, rfl, rfl, by decide +kernel, rfl, by decide +kernel, by decide +kernel⟩
abbrev s_law_refused : Stmt := topS 73
abbrev n_law_refused : List Str := ["_law_notes", "_law_found", "error"]
theorem sc_law_refused : FnScope n_law_refused ["_law_notes"] (defScope s_law_refused) := ⟨rfl, rfl, rfl, by decide +kernel, rfl, by decide +kernel, by decide +kernel⟩
abbrev s_law : Stmt := topS 74
abbrev n_law : List Str := ["_law_script", "_law_h", "_law_words_here", "_law_way", "_law_given", "_law_enough", "_law_notes", "_law_rule", "_law_least", "_law_wrong"]
theorem sc_law : FnScope n_law ["_law_script"] (defScope s_law) := ⟨rfl, rfl, rfl, by decide +kernel, rfl, by decide +kernel, by decide +kernel⟩
abbrev s_IR : Stmt := inClass (topS 3) 0
theorem ns_IR : NdefX.NScope ["self", "index", "__class__"] ["self", "index"] ["__class__"] (defScope s_IR) := NdefX.nscope_by (by decide +kernel)
def mainFile : Str := PySem.Challenge.pw_carriedin_k12_whole_enough_notes.main.file
/-! ### constants as data -/
mutual
def dB (K : PySem.W.Frag) : Nat → Value → PyData → Bool
  | 0, _, _ => false
  | _ + 1, .none, .none => true
  | _ + 1, .int i _, .int j => decide (i = j)
  | _ + 1, .str x _, .str y => decide (x = y)
  | n + 1, .ref a, .tuple ds => (match K.lookup a with
    | some ⟨.type c, _, .seq its _, _⟩ => decide (c = "tuple") && (decide (its.size ≤ sizeLine) && dBs K n its.toList ds)
    | _ => false)
  | _ + 1, _, _ => false
def dBs (K : PySem.W.Frag) : Nat → List Value → List PyData → Bool
  | _, [], [] => true
  | 0, _, _ => false
  | n + 1, u :: us, d :: ds => dB K n u d && dBs K n us ds
  | _ + 1, _, _ => false
end
mutual
theorem dB_ok {K : PySem.W.Frag} : ∀ (n : Nat) (u : Value) (d : PyData), dB K n u d = true → ∃ v, RelV v u ∧ ∀ H, Dp K H v d
  | 0, u, d, h => by
    unfold dB at h
    cases h
  | n + 1, u, d, h => by
    cases u <;> cases d <;> unfold dB at h <;> first
      | exact ⟨.non, rfl, fun H => .non⟩
      | exact ⟨.int _, ⟨_, congrArg (fun z => Value.int z _) (of_decide_eq_true h)⟩, fun H => .int _⟩
      | exact ⟨.str _, ⟨_, congrArg (fun z => Value.str z _) (of_decide_eq_true h)⟩, fun H => .str _⟩
      | (exact dB_tup n _ _ h)
      | (exact absurd h Bool.false_ne_true)
theorem dB_tup {K : PySem.W.Frag} : ∀ (n : Nat) (a : Addr) (ds : List PyData), (match K.lookup a with
    | some ⟨.type c, _, .seq its _, _⟩ => decide (c = "tuple") && (decide (its.size ≤ sizeLine) && dBs K n its.toList ds)
    | _ => false) = true → ∃ v, RelV v (.ref a) ∧ ∀ H, Dp K H v (.tuple ds) := fun n a ds h => by
  cases q : K.lookup a with
  | none =>
    rw [q] at h
    cases h
  | some o =>
    obtain ⟨oc, od, dt, osl⟩ := o
    rw [q] at h
    cases oc with
    | type c =>
      cases dt with
      | seq its m =>
        obtain ⟨h1, h2⟩ := He.ba (show (decide (c = "tuple") && (decide (its.size ≤ sizeLine) && dBs K n its.toList ds)) = true from h)
        obtain ⟨h3, h4⟩ := He.ba h2
        obtain ⟨vs, r1, r2⟩ := dBs_ok n _ _ h4
        exact ⟨.ref a, rfl, fun H => .tup (.inr ⟨_, its, m, q, congrArg Value.type (of_decide_eq_true h1), rfl, of_decide_eq_true h3, r1⟩) (r2 H)⟩
      | _ => cases h
    | _ => cases dt <;> cases h
theorem dBs_ok {K : PySem.W.Frag} : ∀ (n : Nat) (us : List Value) (ds : List PyData), dBs K n us ds = true → ∃ vs, Vals vs us ∧ ∀ H, DpAll K H vs ds
  | n, us, ds, h => by
    cases us with
    | nil => cases ds with
      | nil => exact ⟨[], .nil, fun H => .nil⟩
      | cons d ds => cases n <;> unfold dBs at h <;> cases h
    | cons u us => cases ds with
      | nil => cases n <;> unfold dBs at h <;> cases h
      | cons d ds => cases n with
        | zero => unfold dBs at h; cases h
        | succ n =>
          unfold dBs at h
          obtain ⟨h1, h2⟩ := He.ba h
          obtain ⟨v, r1, r2⟩ := dB_ok n u d h1
          obtain ⟨vs, q1, q2⟩ := dBs_ok n us ds h2
          exact ⟨v :: vs, .cons r1 q1, fun H => .cons (r2 H) (q2 H)⟩
end
def cB (K : PySem.W.Frag) (c : Str × PyData) : Bool := match PySem.W.nsIn K mainGlobals c.1 with
  | some (some u) => dB K 20 u c.2
  | _ => false
theorem cB_ok {K : PySem.W.Frag} {h : Heap} {mg : Str → Option Value} (X : K.In h) (G : h.Ns mainGlobals mg) {x : Str} {d : PyData} (e : cB K (x, d) = true) : ∃ v, (∃ u, mg x = some u ∧ RelV v u) ∧ ∀ H, Dp K H v d := by
  have e' : (match PySem.W.nsIn K mainGlobals x with
    | some (some u) => dB K 20 u d
    | _ => false) = true := e
  cases q : PySem.W.nsIn K mainGlobals x with
  | none =>
    rw [q] at e'
    cases e'
  | some o =>
    rw [q] at e'
    cases o with
    | none => cases e'
    | some u =>
      obtain ⟨v, r1, r2⟩ := dB_ok 20 u d e'
      exact ⟨v, ⟨u, PySem.W.mg_of X G q, r1⟩, r2⟩
/-! ### properties -/
def prA (K : PySem.W.Frag) (c : Str × Str) : Addr := match PySem.W.findIn K (.ref (He.ga K c.1)) c.2 with
  | some (some (.ref p)) => p
  | _ => 0
def prG (K : PySem.W.Frag) (c : Str × Str) : Addr := match PySem.W.recIn K (prA K c) "property" with
  | some (.ref g :: _) => g
  | _ => 0
def pB (K : PySem.W.Frag) (c : Str × Str) : Bool := He.eqO (PySem.W.findIn K (.ref (He.ga K c.1)) c.2) (some (some (.ref (prA K c)))) && (He.eqO (PySem.W.specialIn K (.ref (prA K c)) "__get__") (some (some (.builtin "property.__get__"))) && (decide (PySem.W.takesIn K (.ref (prA K c)) = some true) && (match PySem.W.recIn K (prA K c) "property" with
  | some (.ref _ :: _) => true
  | _ => false)))
theorem pB_ok {K : PySem.W.Frag} {c : Str × Str} (e : pB K c = true) : PropOf K (He.ga K c.1) c.2 (prA K c) (prG K c) := by
  obtain ⟨h1, h2⟩ := He.ba e
  obtain ⟨h2, h3⟩ := He.ba h2
  obtain ⟨h3, h4⟩ := He.ba h3
  refine ⟨He.eqO_ok h1, He.eqO_ok h2, of_decide_eq_true h3, ?_⟩
  unfold prG
  cases q : PySem.W.recIn K (prA K c) "property" with
  | none =>
    rw [q] at h4
    cases h4
  | some l =>
    rw [q] at h4
    cases l with
    | nil => cases h4
    | cons u r => cases u with
      | ref g => exact ⟨r, rfl⟩
      | _ => cases h4
/-! ### the facts -/
def fa : List He.Fa := [.glo "is_integer",
  .glo "is_word",
  .glo "are_notes",
  .glo "is_test",
  .glo "is_row",
  .glo "first_state",
  .glo "happened",
  .glo "words_of",
  .glo "values_for",
  .glo "events_for",
  .glo "common_key",
  .glo "with_event",
  .glo "walked",
  .glo "fault_behind",
  .glo "faults_by",
  .glo "rules_with",
  .glo "right_rule_by",
  .glo "right_rule",
  .glo "fewest_notes",
  .glo "_law_mix",
  .glo "_law_next",
  .glo "_law_alike",
  .glo "_law_pick",
  .glo "_law_new",
  .glo "_law_spot",
  .glo "_law_so",
  .glo "_law_row",
  .glo "_law_carried",
  .glo "_law_done",
  .glo "_law_due",
  .glo "_law_key",
  .glo "_law_choices",
  .glo "_law_layers",
  .glo "_law_words",
  .glo "_law_sight",
  .glo "_law_conflict",
  .glo "_law_served",
  .glo "_law_faultless",
  .glo "_law_refused",
  .glo "law",
  .glo "Rule",
  .cls "Rule",
  .noat "Rule" "looks",
  .noat "Rule" "table",
  .mkr "Rule",
  .meth "Rule" "__len__",
  .meth "Rule" "__eq__",
  .meth "Rule" "without",
  .glo "State",
  .cls "State",
  .noat "State" "upper",
  .noat "State" "here",
  .noat "State" "before",
  .noat "State" "wish",
  .noat "State" "is_mine",
  .mkr "State",
  .meth "State" "value",
  .meth "State" "is_so",
  .meth "State" "row_for",
  .meth "State" "due",
  .meth "State" "word",
  .meth "State" "carried",
  .meth "State" "faults_of",
  .meth "State" "edited",
  .meth "State" "put_back",
  .meth "State" "changed",
  .meth "State" "parts",
  .glo "Walk",
  .cls "Walk",
  .noat "Walk" "spots",
  .noat "Walk" "histories",
  .noat "Walk" "known",
  .mkr "Walk",
  .meth "Walk" "reach",
  .free "all",
  .free "bool",
  .free "dict",
  .free "enumerate",
  .free "int",
  .free "isinstance",
  .free "len",
  .free "list",
  .free "max",
  .free "min",
  .free "range",
  .free "set",
  .free "sorted",
  .free "str",
  .free "super",
  .free "tuple",
  .free "zip"]
abbrev d_is_integer : He.DefD := ⟨("is_integer", none), "is_integer", "is_integer", defArgs s_is_integer, defBody s_is_integer, defScope s_is_integer, [], []⟩
abbrev d_is_word : He.DefD := ⟨("is_word", none), "is_word", "is_word", defArgs s_is_word, defBody s_is_word, defScope s_is_word, [], []⟩
abbrev d_are_notes : He.DefD := ⟨("are_notes", none), "are_notes", "are_notes", defArgs s_are_notes, defBody s_are_notes, defScope s_are_notes, [], []⟩
abbrev d_is_test : He.DefD := ⟨("is_test", none), "is_test", "is_test", defArgs s_is_test, defBody s_is_test, defScope s_is_test, [], []⟩
abbrev d_is_row : He.DefD := ⟨("is_row", none), "is_row", "is_row", defArgs s_is_row, defBody s_is_row, defScope s_is_row, [], []⟩
abbrev d_Rule_init : He.DefD := ⟨("Rule", some "__init__"), "__init__", "Rule.__init__", defArgs s_Rule_init, defBody s_Rule_init, defScope s_Rule_init, [], []⟩
abbrev d_Rule_len : He.DefD := ⟨("Rule", some "__len__"), "__len__", "Rule.__len__", defArgs s_Rule_len, defBody s_Rule_len, defScope s_Rule_len, [], []⟩
abbrev d_Rule_eq : He.DefD := ⟨("Rule", some "__eq__"), "__eq__", "Rule.__eq__", defArgs s_Rule_eq, defBody s_Rule_eq, defScope s_Rule_eq, [], []⟩
abbrev d_Rule_without : He.DefD := ⟨("Rule", some "without"), "without", "Rule.without", defArgs s_Rule_without, defBody s_Rule_without, defScope s_Rule_without, [], []⟩
abbrev d_State_init : He.DefD := ⟨("State", some "__init__"), "__init__", "State.__init__", defArgs s_State_init, defBody s_State_init, defScope s_State_init, [], []⟩
abbrev d_State_value : He.DefD := ⟨("State", some "value"), "value", "State.value", defArgs s_State_value, defBody s_State_value, defScope s_State_value, [], []⟩
abbrev d_State_is_so : He.DefD := ⟨("State", some "is_so"), "is_so", "State.is_so", defArgs s_State_is_so, defBody s_State_is_so, defScope s_State_is_so, [], []⟩
abbrev d_State_row_for : He.DefD := ⟨("State", some "row_for"), "row_for", "State.row_for", defArgs s_State_row_for, defBody s_State_row_for, defScope s_State_row_for, [], []⟩
abbrev d_State_due : He.DefD := ⟨("State", some "due"), "due", "State.due", defArgs s_State_due, defBody s_State_due, defScope s_State_due, [], []⟩
abbrev d_State_word : He.DefD := ⟨("State", some "word"), "word", "State.word", defArgs s_State_word, defBody s_State_word, defScope s_State_word, [], []⟩
abbrev d_State_carried : He.DefD := ⟨("State", some "carried"), "carried", "State.carried", defArgs s_State_carried, defBody s_State_carried, defScope s_State_carried, [], []⟩
abbrev d_State_faults_of : He.DefD := ⟨("State", some "faults_of"), "faults_of", "State.faults_of", defArgs s_State_faults_of, defBody s_State_faults_of, defScope s_State_faults_of, [], []⟩
abbrev d_State_edited : He.DefD := ⟨("State", some "edited"), "edited", "State.edited", defArgs s_State_edited, defBody s_State_edited, defScope s_State_edited, [], []⟩
abbrev d_State_put_back : He.DefD := ⟨("State", some "put_back"), "put_back", "State.put_back", defArgs s_State_put_back, defBody s_State_put_back, defScope s_State_put_back, [], []⟩
abbrev d_State_changed : He.DefD := ⟨("State", some "changed"), "changed", "State.changed", defArgs s_State_changed, defBody s_State_changed, defScope s_State_changed, [], []⟩
abbrev d_State_parts : He.DefD := ⟨("State", some "parts"), "parts", "State.parts", defArgs s_State_parts, defBody s_State_parts, defScope s_State_parts, [], []⟩
abbrev d_first_state : He.DefD := ⟨("first_state", none), "first_state", "first_state", defArgs s_first_state, defBody s_first_state, defScope s_first_state, [], []⟩
abbrev d_happened : He.DefD := ⟨("happened", none), "happened", "happened", defArgs s_happened, defBody s_happened, defScope s_happened, [], []⟩
abbrev d_words_of : He.DefD := ⟨("words_of", none), "words_of", "words_of", defArgs s_words_of, defBody s_words_of, defScope s_words_of, [], []⟩
abbrev d_values_for : He.DefD := ⟨("values_for", none), "values_for", "values_for", defArgs s_values_for, defBody s_values_for, defScope s_values_for, [], []⟩
abbrev d_events_for : He.DefD := ⟨("events_for", none), "events_for", "events_for", defArgs s_events_for, defBody s_events_for, defScope s_events_for, [], []⟩
abbrev d_Walk_init : He.DefD := ⟨("Walk", some "__init__"), "__init__", "Walk.__init__", defArgs s_Walk_init, defBody s_Walk_init, defScope s_Walk_init, [], []⟩
abbrev d_Walk_reach : He.DefD := ⟨("Walk", some "reach"), "reach", "Walk.reach", defArgs s_Walk_reach, defBody s_Walk_reach, defScope s_Walk_reach, [], []⟩
abbrev d_common_key : He.DefD := ⟨("common_key", none), "common_key", "common_key", defArgs s_common_key, defBody s_common_key, defScope s_common_key, [], []⟩
abbrev d_with_event : He.DefD := ⟨("with_event", none), "with_event", "with_event", defArgs s_with_event, defBody s_with_event, defScope s_with_event, [], []⟩
abbrev d_walked : He.DefD := ⟨("walked", none), "walked", "walked", defArgs s_walked, defBody s_walked, defScope s_walked, [], []⟩
abbrev d_fault_behind : He.DefD := ⟨("fault_behind", none), "fault_behind", "fault_behind", defArgs s_fault_behind, defBody s_fault_behind, defScope s_fault_behind, [], []⟩
abbrev d_faults_by : He.DefD := ⟨("faults_by", none), "faults_by", "faults_by", defArgs s_faults_by, defBody s_faults_by, defScope s_faults_by, [], []⟩
abbrev d_rules_with : He.DefD := ⟨("rules_with", none), "rules_with", "rules_with", defArgs s_rules_with, defBody s_rules_with, defScope s_rules_with, [], []⟩
abbrev d_right_rule_by : He.DefD := ⟨("right_rule_by", none), "right_rule_by", "right_rule_by", defArgs s_right_rule_by, defBody s_right_rule_by, defScope s_right_rule_by, [], []⟩
abbrev d_right_rule : He.DefD := ⟨("right_rule", none), "right_rule", "right_rule", defArgs s_right_rule, defBody s_right_rule, defScope s_right_rule, [], [("events", .non)]⟩
abbrev d_fewest_notes : He.DefD := ⟨("fewest_notes", none), "fewest_notes", "fewest_notes", defArgs s_fewest_notes, defBody s_fewest_notes, defScope s_fewest_notes, [], [("events", .non)]⟩
abbrev d_law_mix : He.DefD := ⟨("_law_mix", none), "_law_mix", "_law_mix", defArgs s_law_mix, defBody s_law_mix, defScope s_law_mix, [], []⟩
abbrev d_law_next : He.DefD := ⟨("_law_next", none), "_law_next", "_law_next", defArgs s_law_next, defBody s_law_next, defScope s_law_next, [], []⟩
abbrev d_law_alike : He.DefD := ⟨("_law_alike", none), "_law_alike", "_law_alike", defArgs s_law_alike, defBody s_law_alike, defScope s_law_alike, [], []⟩
abbrev d_law_pick : He.DefD := ⟨("_law_pick", none), "_law_pick", "_law_pick", defArgs s_law_pick, defBody s_law_pick, defScope s_law_pick, [], []⟩
abbrev d_law_new : He.DefD := ⟨("_law_new", none), "_law_new", "_law_new", defArgs s_law_new, defBody s_law_new, defScope s_law_new, [], []⟩
abbrev d_law_spot : He.DefD := ⟨("_law_spot", none), "_law_spot", "_law_spot", defArgs s_law_spot, defBody s_law_spot, defScope s_law_spot, [], []⟩
abbrev d_law_so : He.DefD := ⟨("_law_so", none), "_law_so", "_law_so", defArgs s_law_so, defBody s_law_so, defScope s_law_so, [], []⟩
abbrev d_law_row : He.DefD := ⟨("_law_row", none), "_law_row", "_law_row", defArgs s_law_row, defBody s_law_row, defScope s_law_row, [], []⟩
abbrev d_law_carried : He.DefD := ⟨("_law_carried", none), "_law_carried", "_law_carried", defArgs s_law_carried, defBody s_law_carried, defScope s_law_carried, [], []⟩
abbrev d_law_done : He.DefD := ⟨("_law_done", none), "_law_done", "_law_done", defArgs s_law_done, defBody s_law_done, defScope s_law_done, [], []⟩
abbrev d_law_due : He.DefD := ⟨("_law_due", none), "_law_due", "_law_due", defArgs s_law_due, defBody s_law_due, defScope s_law_due, [], []⟩
abbrev d_law_key : He.DefD := ⟨("_law_key", none), "_law_key", "_law_key", defArgs s_law_key, defBody s_law_key, defScope s_law_key, [], []⟩
abbrev d_law_choices : He.DefD := ⟨("_law_choices", none), "_law_choices", "_law_choices", defArgs s_law_choices, defBody s_law_choices, defScope s_law_choices, [], []⟩
abbrev d_law_layers : He.DefD := ⟨("_law_layers", none), "_law_layers", "_law_layers", defArgs s_law_layers, defBody s_law_layers, defScope s_law_layers, [], []⟩
abbrev d_law_words : He.DefD := ⟨("_law_words", none), "_law_words", "_law_words", defArgs s_law_words, defBody s_law_words, defScope s_law_words, [], []⟩
abbrev d_law_sight : He.DefD := ⟨("_law_sight", none), "_law_sight", "_law_sight", defArgs s_law_sight, defBody s_law_sight, defScope s_law_sight, [], []⟩
abbrev d_law_conflict : He.DefD := ⟨("_law_conflict", none), "_law_conflict", "_law_conflict", defArgs s_law_conflict, defBody s_law_conflict, defScope s_law_conflict, [], []⟩
abbrev d_law_served : He.DefD := ⟨("_law_served", none), "_law_served", "_law_served", defArgs s_law_served, defBody s_law_served, defScope s_law_served, [], []⟩
abbrev d_law_faultless : He.DefD := ⟨("_law_faultless", none), "_law_faultless", "_law_faultless", defArgs s_law_faultless, defBody s_law_faultless, defScope s_law_faultless, [], []⟩
abbrev d_law_refused : He.DefD := ⟨("_law_refused", none), "_law_refused", "_law_refused", defArgs s_law_refused, defBody s_law_refused, defScope s_law_refused, [], []⟩
abbrev d_law : He.DefD := ⟨("law", none), "law", "law", defArgs s_law, defBody s_law, defScope s_law, [], []⟩
def fn : List He.DefD := [d_is_integer, d_is_word, d_are_notes, d_is_test, d_is_row, d_Rule_init, d_Rule_len, d_Rule_eq, d_Rule_without, d_State_init, d_State_value, d_State_is_so, d_State_row_for, d_State_due, d_State_word, d_State_carried, d_State_faults_of, d_State_edited, d_State_put_back, d_State_changed, d_State_parts, d_first_state, d_happened, d_words_of, d_values_for, d_events_for, d_Walk_init, d_Walk_reach, d_common_key, d_with_event, d_walked, d_fault_behind, d_faults_by, d_rules_with, d_right_rule_by, d_right_rule, d_fewest_notes, d_law_mix, d_law_next, d_law_alike, d_law_pick, d_law_new, d_law_spot, d_law_so, d_law_row, d_law_carried, d_law_done, d_law_due, d_law_key, d_law_choices, d_law_layers, d_law_words, d_law_sight, d_law_conflict, d_law_served, d_law_faultless, d_law_refused, d_law]
def cs : List (Str × PyData) := [("MOST_ROWS", .int 8),
  ("MOST_TESTS", .int 4),
  ("ALL_NOTES", .tuple [.tuple [], .tuple [.str "base"], .tuple [.str "mine"], .tuple [.str "base", .str "mine"]]),
  ("SPOTS", .tuple [.str "own", .str "above", .str "base"]),
  ("PAIRS", .tuple [.str "same", .str "unlike"]),
  ("SINGLES", .tuple [.str "there", .str "gone"]),
  ("FLAGS", .tuple [.str "mine", .str "free"]),
  ("ANSWERS", .tuple [.str "yes", .str "no"]),
  ("ACTIONS", .tuple [.str "take", .str "keep", .str "drop", .str "claim"]),
  ("KEEP", .str "keep"),
  ("EVERY", .str "every"),
  ("CHANGED", .str "changed"),
  ("LOST", .str "lost"),
  ("MISSED", .str "missed"),
  ("WAYS", .tuple [.str "changed", .str "every"]),
  ("EVENTS", .tuple [.str "change", .str "delete", .str "set", .str "remove", .str "back"]),
  ("WORDS", .tuple [.str "lost", .str "missed"]),
  ("FREE", .tuple [.tuple [.str "free"]]),
  ("SAME", .tuple [.tuple [.str "same", .str "own", .str "base"]]),
  ("DELETED", .tuple [.tuple [.str "there", .str "own"], .tuple [.str "gone", .str "above"]])]
def prs : List (Str × Str) := [("Rule", "notes"), ("Rule", "rows")]
/-! ### the exception InvalidRule -/
def irC (K : PySem.W.Frag) : Addr := He.ga K "InvalidRule"
def irF (K : PySem.W.Frag) : Addr := He.ma K (irC K) "__init__"
def irPartB (C : Addr) (hd dl : Bool) (mro : List Value) (sl : List (Option Value)) : Bool := match mro, sl with
  | .ref C' :: bm, [_, _, _, _, some (.builtin n), _] => decide (C' = C) && (decide (n = "ValueError.__new__") && (!dl && (hd && PySem.HandSPX.refsVE bm)))
  | _, _ => false
def irClassB (K : PySem.W.Frag) : Bool := match K.lookup (irC K) with
  | some ⟨.type c, _, .cls cd, sl⟩ => decide (c = "type") && irPartB (irC K) cd.hasDict cd.hasDel cd.mro sl.toList
  | _ => false
def irCellB (K : PySem.W.Frag) (cc : Addr) : Bool := match K.lookup cc with
  | some ⟨_, _, .cell (some (.ref D)), _⟩ => decide (D = irC K)
  | _ => false
def irFileB (v : Option Value) : Bool := match v with
  | some (.str file _) => decide (mainFile = file)
  | _ => false
def irCodeB (K : PySem.W.Frag) (c : Addr) : Bool := match K.lookup c with
  | some ⟨_, _, .fields vs, _⟩ => irFileB vs[2]?
  | _ => false
def irCloB (K : PySem.W.Frag) (cl : List (Str × Addr)) (cd dv : Value) : Bool := match cl, cd, dv with
  | [(n, cc)], .ref cd, .none => decide (n = "__class__") && (irCellB K cc && (irCodeB K cd && PySem.W.codeIn K (.ref cd) "InvalidRule.__init__"))
  | _, _, _ => false
def irFnB (K : PySem.W.Frag) : Bool := match K.lookup (irF K) with
  | some ⟨_, _, .func fd, _⟩ => irCloB K fd.closure fd.code fd.defaults
  | _ => false
abbrev IrW : Type := Option (Str × Str × Arguments × FuncBody × Scope × Addr × Addr)
def irW (K : PySem.W.Frag) : IrW := match K.lookup (irF K) with
  | some ⟨_, _, .func fd, _⟩ => some (fd.name, fd.qualname, fd.params, fd.body, fd.scope, fd.globals, fd.builtins)
  | _ => none
def irWv : IrW := some ("__init__", "InvalidRule.__init__", defArgs s_IR, .stmts (defBody s_IR), defScope s_IR, mainGlobals, builtinsNs)
def irB (K : PySem.W.Frag) : Bool := irClassB K && (irFnB K && (He.eqO (PySem.W.findIn K (.ref (irC K)) "__setattr__") (some (some (.builtin "object.__setattr__"))) && (decide (PySem.W.subIn K (.ref (irC K)) (.type "BaseException") = some true) && (decide (PySem.W.typeIn K (.ref (irC K)) = some (.type "type")) && (PySem.W.keepIn K (.ref (irC K)) &&
  (xfB K (irC K) && (decide (PySem.W.mroIn K (irC K) (.ref (irC K)) = some true) && (He.eqO (PySem.W.ks_superIn K (irC K) (irC K) "__init__") (some (some (.builtin "ValueError.__init__"))) && (decide (PySem.W.subIn K (.ref (irC K)) (.type "ValueError") = some true) && (He.eqO (PySem.W.nsIn K cStatics "thirdparty.any") (some none) &&
  (He.eqO (PySem.W.nsIn K mainGlobals "super") (some none) && (He.eqO (PySem.W.findIn K (.ref (irC K)) "__init__") (some (some (.ref (irF K)))) && (decide (PySem.W.typeIn K (.ref (irF K)) = some (.type "function")) && (He.eqO (PySem.W.findIn K (.ref (irC K)) "index") (some none) && (decide (PySem.W.exmOne K (.ref (irC K)) (.ref (irC K)) = some true) && He.eqO (PySem.W.nsIn K mainGlobals "InvalidRule") (some (some (.ref (irC K)))))))))))))))))))
/-! ### what the properties run -/
def gtW (K : PySem.W.Frag) (c : Str × Str) : He.FnW := match K.lookup (prG K c) with
  | some ⟨_, _, .func z, _⟩ => some (z.name, z.qualname, z.params, z.body, z.scope, z.globals, z.closure, z.builtins)
  | _ => none
/-- what isinstance asks of a rule -/
def isB (K : PySem.W.Frag) : Bool := He.eqO (PySem.W.findIn K (.ref (He.ga K "Rule")) "__class__") (some (some (.builtin "object.__class__"))) && (He.eqO (PySem.W.specialIn K (.builtin "object.__class__") "__get__") (some (some (.builtin "getset_descriptor.__get__"))) && (decide (PySem.W.takesIn K (.builtin "object.__class__") = some true) && (decide (PySem.W.mroIn K (He.ga K "Rule") (.type "object") = some true) && decide (PySem.W.kitOne K (.ref (He.ga K "Rule")) (.ref (He.ga K "Rule")) = some true))))
def gtV (x y : Str) (st : Stmt) : He.FnW := some (x, y, defArgs st, .stmts (defBody st), defScope st, mainGlobals, [], builtinsNs)
def gtB (K : PySem.W.Frag) (c : Str × Str) (y : Str) : Bool := PySem.W.keepIn K (.ref (prG K c)) && (match K.lookup (prG K c) with
  | some ⟨_, _, .func z, _⟩ => PySem.W.codeIn K z.code y && (He.dflB K z.defaults [] && He.kwdB K z.kwdefaults [])
  | _ => false)
theorem gt_fun {K : PySem.W.Frag} {c : Str × Str} {x y : Str} {st : Stmt} (e : gtW K c = gtV x y st) (b : gtB K c y = true) : ∃ fd, FunD K x y (defArgs st) (defBody st) (defScope st) [] [] (prG K c) fd := by
  obtain ⟨b1, b2⟩ := He.ba b
  unfold gtW gtV at e
  cases q : K.lookup (prG K c) with
  | none =>
    rw [q] at e
    cases e
  | some ob =>
    obtain ⟨ob1, ob2, ob3, ob4⟩ := ob
    rw [q] at e b2
    cases ob3 with
    | func z =>
      obtain ⟨z1, z2, z3, z4, z5, z6, z7, z8, z9, z10, z11, z12, z13, z14, z15⟩ := z
      have e3 : (some (z1, z2, z3, z4, z5, z6, z7, z15) : He.FnW) = some (x, y, defArgs st, .stmts (defBody st), defScope st, mainGlobals, [], builtinsNs) := e
      simp only [Option.some.injEq, Prod.mk.injEq] at e3
      obtain ⟨y1, y2, y3, y4, y5, y6, y7, y8⟩ := e3
      subst y1 y2 y3 y4 y5 y6 y7 y8
      obtain ⟨b3, b4⟩ := He.ba (show (PySem.W.codeIn K z13 z2 && (He.dflB K z8 [] && He.kwdB K z9 [])) = true from b2)
      obtain ⟨b5, b6⟩ := He.ba b4
      exact ⟨_, ⟨ob1, ob2, z8, z9, z10, z11, z12, z13, z14, ob4, rfl, q, b3, He.dflB_ok b5, He.kwdB_ok b6⟩, b1⟩
    | _ => cases b2
def exB (K : PySem.W.Frag) : Bool := cs.all (cB K) && (prs.all (pB K) && (irB K && (gtB K ("Rule", "notes") "Rule.notes" && (gtB K ("Rule", "rows") "Rule.rows" && isB K))))
abbrev AlC : Type := He.AlD × Bool × IrW × He.FnW × He.FnW
def obsC (K : PySem.W.Frag) : AlC := (He.obsD fa fn K, exB K, irW K, gtW K ("Rule", "notes"), gtW K ("Rule", "rows"))
def valC : AlC := (He.valD fn, true, irWv, gtV "notes" "Rule.notes" s_Rule_notes, gtV "rows" "Rule.rows" s_Rule_rows)
def SaysC (K : PySem.W.Frag) : Prop := obsC K = valC
def obsCG (n : Nat) (g : Addr → Option Obj) : AlC := obsC (He.frG g (cStatics :: He.asD g n))
def hookC (n : Nat) : PySem.W.Hook where
  α := AlC
  obs := fun s => obsCG n s.heap.get?
  val := fun _ => valC
  says := fun _ h => ∃ K : PySem.W.Frag, K.In h ∧ SaysC K
  of := fun _ _ e => ⟨_, He.frG_in, e⟩
  keeps := fun _ _ _ ⟨K, hK, c⟩ k => ⟨K, PySem.W.Frag.In.keeps hK k, c⟩
theorem obsCG_eq {n : Nat} {g : Addr → Option Obj} {s : Shared} (h : ∀ a, g a = s.heap.get? a) : obsCG n g = (hookC n).obs s := by
  have e : g = s.heap.get? := funext h
  rw [e] <;> rfl
/-- what the walk leans on -/
structure Txt (K : PySem.W.Frag) (mg : Str → Option Value) : Prop where
  h : ∃ h : Heap, K.In h ∧ h.Ns mainGlobals mg
  c : SaysC K
section
variable {K : PySem.W.Frag} {mg : Str → Option Value}
theorem Txt.d (T : Txt K mg) : He.SaysD fa fn K := congrArg (fun z : AlC => z.1) T.c
theorem Txt.e (T : Txt K mg) : exB K = true := congrArg (fun z : AlC => z.2.1) T.c
theorem Txt.cst (T : Txt K mg) (i : Nat) {x : Str} {d : PyData} (h : cs[i]? = some (x, d) := by rfl) : ∃ v, (∃ u, mg x = some u ∧ RelV v u) ∧ ∀ H, Dp K H v d := by
  obtain ⟨hp, X, G⟩ := T.h
  exact cB_ok X G (List.all_eq_true.mp (He.ba T.e).1 _ (List.mem_of_getElem? h))
theorem Txt.prp (T : Txt K mg) (i : Nat) {c : Str × Str} (h : prs[i]? = some c := by rfl) : PropOf K (He.ga K c.1) c.2 (prA K c) (prG K c) := pB_ok (List.all_eq_true.mp (He.ba (He.ba T.e).2).1 _ (List.mem_of_getElem? h))
abbrev aRule (K : PySem.W.Frag) : Addr := He.ga K "Rule"
abbrev aState (K : PySem.W.Frag) : Addr := He.ga K "State"
abbrev aWalk (K : PySem.W.Frag) : Addr := He.ga K "Walk"
theorem Txt.g_is_integer (T : Txt K mg) : mg "is_integer" = some (.ref (He.ga K "is_integer")) := by
  obtain ⟨hp, X, G⟩ := T.h
  exact He.glo_ok X G (T.d.fact 0 (f := .glo "is_integer") rfl)
theorem Txt.g_is_word (T : Txt K mg) : mg "is_word" = some (.ref (He.ga K "is_word")) := by
  obtain ⟨hp, X, G⟩ := T.h
  exact He.glo_ok X G (T.d.fact 1 (f := .glo "is_word") rfl)
theorem Txt.g_are_notes (T : Txt K mg) : mg "are_notes" = some (.ref (He.ga K "are_notes")) := by
  obtain ⟨hp, X, G⟩ := T.h
  exact He.glo_ok X G (T.d.fact 2 (f := .glo "are_notes") rfl)
theorem Txt.g_is_test (T : Txt K mg) : mg "is_test" = some (.ref (He.ga K "is_test")) := by
  obtain ⟨hp, X, G⟩ := T.h
  exact He.glo_ok X G (T.d.fact 3 (f := .glo "is_test") rfl)
theorem Txt.g_is_row (T : Txt K mg) : mg "is_row" = some (.ref (He.ga K "is_row")) := by
  obtain ⟨hp, X, G⟩ := T.h
  exact He.glo_ok X G (T.d.fact 4 (f := .glo "is_row") rfl)
theorem Txt.g_first_state (T : Txt K mg) : mg "first_state" = some (.ref (He.ga K "first_state")) := by
  obtain ⟨hp, X, G⟩ := T.h
  exact He.glo_ok X G (T.d.fact 5 (f := .glo "first_state") rfl)
theorem Txt.g_happened (T : Txt K mg) : mg "happened" = some (.ref (He.ga K "happened")) := by
  obtain ⟨hp, X, G⟩ := T.h
  exact He.glo_ok X G (T.d.fact 6 (f := .glo "happened") rfl)
theorem Txt.g_words_of (T : Txt K mg) : mg "words_of" = some (.ref (He.ga K "words_of")) := by
  obtain ⟨hp, X, G⟩ := T.h
  exact He.glo_ok X G (T.d.fact 7 (f := .glo "words_of") rfl)
theorem Txt.g_values_for (T : Txt K mg) : mg "values_for" = some (.ref (He.ga K "values_for")) := by
  obtain ⟨hp, X, G⟩ := T.h
  exact He.glo_ok X G (T.d.fact 8 (f := .glo "values_for") rfl)
theorem Txt.g_events_for (T : Txt K mg) : mg "events_for" = some (.ref (He.ga K "events_for")) := by
  obtain ⟨hp, X, G⟩ := T.h
  exact He.glo_ok X G (T.d.fact 9 (f := .glo "events_for") rfl)
theorem Txt.g_common_key (T : Txt K mg) : mg "common_key" = some (.ref (He.ga K "common_key")) := by
  obtain ⟨hp, X, G⟩ := T.h
  exact He.glo_ok X G (T.d.fact 10 (f := .glo "common_key") rfl)
theorem Txt.g_with_event (T : Txt K mg) : mg "with_event" = some (.ref (He.ga K "with_event")) := by
  obtain ⟨hp, X, G⟩ := T.h
  exact He.glo_ok X G (T.d.fact 11 (f := .glo "with_event") rfl)
theorem Txt.g_walked (T : Txt K mg) : mg "walked" = some (.ref (He.ga K "walked")) := by
  obtain ⟨hp, X, G⟩ := T.h
  exact He.glo_ok X G (T.d.fact 12 (f := .glo "walked") rfl)
theorem Txt.g_fault_behind (T : Txt K mg) : mg "fault_behind" = some (.ref (He.ga K "fault_behind")) := by
  obtain ⟨hp, X, G⟩ := T.h
  exact He.glo_ok X G (T.d.fact 13 (f := .glo "fault_behind") rfl)
theorem Txt.g_faults_by (T : Txt K mg) : mg "faults_by" = some (.ref (He.ga K "faults_by")) := by
  obtain ⟨hp, X, G⟩ := T.h
  exact He.glo_ok X G (T.d.fact 14 (f := .glo "faults_by") rfl)
theorem Txt.g_rules_with (T : Txt K mg) : mg "rules_with" = some (.ref (He.ga K "rules_with")) := by
  obtain ⟨hp, X, G⟩ := T.h
  exact He.glo_ok X G (T.d.fact 15 (f := .glo "rules_with") rfl)
theorem Txt.g_right_rule_by (T : Txt K mg) : mg "right_rule_by" = some (.ref (He.ga K "right_rule_by")) := by
  obtain ⟨hp, X, G⟩ := T.h
  exact He.glo_ok X G (T.d.fact 16 (f := .glo "right_rule_by") rfl)
theorem Txt.g_right_rule (T : Txt K mg) : mg "right_rule" = some (.ref (He.ga K "right_rule")) := by
  obtain ⟨hp, X, G⟩ := T.h
  exact He.glo_ok X G (T.d.fact 17 (f := .glo "right_rule") rfl)
theorem Txt.g_fewest_notes (T : Txt K mg) : mg "fewest_notes" = some (.ref (He.ga K "fewest_notes")) := by
  obtain ⟨hp, X, G⟩ := T.h
  exact He.glo_ok X G (T.d.fact 18 (f := .glo "fewest_notes") rfl)
theorem Txt.g_law_mix (T : Txt K mg) : mg "_law_mix" = some (.ref (He.ga K "_law_mix")) := by
  obtain ⟨hp, X, G⟩ := T.h
  exact He.glo_ok X G (T.d.fact 19 (f := .glo "_law_mix") rfl)
theorem Txt.g_law_next (T : Txt K mg) : mg "_law_next" = some (.ref (He.ga K "_law_next")) := by
  obtain ⟨hp, X, G⟩ := T.h
  exact He.glo_ok X G (T.d.fact 20 (f := .glo "_law_next") rfl)
theorem Txt.g_law_alike (T : Txt K mg) : mg "_law_alike" = some (.ref (He.ga K "_law_alike")) := by
  obtain ⟨hp, X, G⟩ := T.h
  exact He.glo_ok X G (T.d.fact 21 (f := .glo "_law_alike") rfl)
theorem Txt.g_law_pick (T : Txt K mg) : mg "_law_pick" = some (.ref (He.ga K "_law_pick")) := by
  obtain ⟨hp, X, G⟩ := T.h
  exact He.glo_ok X G (T.d.fact 22 (f := .glo "_law_pick") rfl)
theorem Txt.g_law_new (T : Txt K mg) : mg "_law_new" = some (.ref (He.ga K "_law_new")) := by
  obtain ⟨hp, X, G⟩ := T.h
  exact He.glo_ok X G (T.d.fact 23 (f := .glo "_law_new") rfl)
theorem Txt.g_law_spot (T : Txt K mg) : mg "_law_spot" = some (.ref (He.ga K "_law_spot")) := by
  obtain ⟨hp, X, G⟩ := T.h
  exact He.glo_ok X G (T.d.fact 24 (f := .glo "_law_spot") rfl)
theorem Txt.g_law_so (T : Txt K mg) : mg "_law_so" = some (.ref (He.ga K "_law_so")) := by
  obtain ⟨hp, X, G⟩ := T.h
  exact He.glo_ok X G (T.d.fact 25 (f := .glo "_law_so") rfl)
theorem Txt.g_law_row (T : Txt K mg) : mg "_law_row" = some (.ref (He.ga K "_law_row")) := by
  obtain ⟨hp, X, G⟩ := T.h
  exact He.glo_ok X G (T.d.fact 26 (f := .glo "_law_row") rfl)
theorem Txt.g_law_carried (T : Txt K mg) : mg "_law_carried" = some (.ref (He.ga K "_law_carried")) := by
  obtain ⟨hp, X, G⟩ := T.h
  exact He.glo_ok X G (T.d.fact 27 (f := .glo "_law_carried") rfl)
theorem Txt.g_law_done (T : Txt K mg) : mg "_law_done" = some (.ref (He.ga K "_law_done")) := by
  obtain ⟨hp, X, G⟩ := T.h
  exact He.glo_ok X G (T.d.fact 28 (f := .glo "_law_done") rfl)
theorem Txt.g_law_due (T : Txt K mg) : mg "_law_due" = some (.ref (He.ga K "_law_due")) := by
  obtain ⟨hp, X, G⟩ := T.h
  exact He.glo_ok X G (T.d.fact 29 (f := .glo "_law_due") rfl)
theorem Txt.g_law_key (T : Txt K mg) : mg "_law_key" = some (.ref (He.ga K "_law_key")) := by
  obtain ⟨hp, X, G⟩ := T.h
  exact He.glo_ok X G (T.d.fact 30 (f := .glo "_law_key") rfl)
theorem Txt.g_law_choices (T : Txt K mg) : mg "_law_choices" = some (.ref (He.ga K "_law_choices")) := by
  obtain ⟨hp, X, G⟩ := T.h
  exact He.glo_ok X G (T.d.fact 31 (f := .glo "_law_choices") rfl)
theorem Txt.g_law_layers (T : Txt K mg) : mg "_law_layers" = some (.ref (He.ga K "_law_layers")) := by
  obtain ⟨hp, X, G⟩ := T.h
  exact He.glo_ok X G (T.d.fact 32 (f := .glo "_law_layers") rfl)
theorem Txt.g_law_words (T : Txt K mg) : mg "_law_words" = some (.ref (He.ga K "_law_words")) := by
  obtain ⟨hp, X, G⟩ := T.h
  exact He.glo_ok X G (T.d.fact 33 (f := .glo "_law_words") rfl)
theorem Txt.g_law_sight (T : Txt K mg) : mg "_law_sight" = some (.ref (He.ga K "_law_sight")) := by
  obtain ⟨hp, X, G⟩ := T.h
  exact He.glo_ok X G (T.d.fact 34 (f := .glo "_law_sight") rfl)
theorem Txt.g_law_conflict (T : Txt K mg) : mg "_law_conflict" = some (.ref (He.ga K "_law_conflict")) := by
  obtain ⟨hp, X, G⟩ := T.h
  exact He.glo_ok X G (T.d.fact 35 (f := .glo "_law_conflict") rfl)
theorem Txt.g_law_served (T : Txt K mg) : mg "_law_served" = some (.ref (He.ga K "_law_served")) := by
  obtain ⟨hp, X, G⟩ := T.h
  exact He.glo_ok X G (T.d.fact 36 (f := .glo "_law_served") rfl)
theorem Txt.g_law_faultless (T : Txt K mg) : mg "_law_faultless" = some (.ref (He.ga K "_law_faultless")) := by
  obtain ⟨hp, X, G⟩ := T.h
  exact He.glo_ok X G (T.d.fact 37 (f := .glo "_law_faultless") rfl)
theorem Txt.g_law_refused (T : Txt K mg) : mg "_law_refused" = some (.ref (He.ga K "_law_refused")) := by
  obtain ⟨hp, X, G⟩ := T.h
  exact He.glo_ok X G (T.d.fact 38 (f := .glo "_law_refused") rfl)
theorem Txt.g_law (T : Txt K mg) : mg "law" = some (.ref (He.ga K "law")) := by
  obtain ⟨hp, X, G⟩ := T.h
  exact He.glo_ok X G (T.d.fact 39 (f := .glo "law") rfl)
theorem Txt.g_Rule (T : Txt K mg) : mg "Rule" = some (.ref (He.ga K "Rule")) := by
  obtain ⟨hp, X, G⟩ := T.h
  exact He.glo_ok X G (T.d.fact 40 (f := .glo "Rule") rfl)
theorem Txt.cl_Rule (T : Txt K mg) : Cls K (aRule K) := He.cls_ok (T.d.fact 41 (f := .cls "Rule") rfl)
theorem Txt.na_Rule_looks (T : Txt K mg) : NoAttr K (aRule K) "looks" := He.noat_ok (T.d.fact 42 (f := .noat "Rule" "looks") rfl)
theorem Txt.na_Rule_table (T : Txt K mg) : NoAttr K (aRule K) "table" := He.noat_ok (T.d.fact 43 (f := .noat "Rule" "table") rfl)
theorem Txt.mk_Rule (T : Txt K mg) : Mk K (aRule K) (He.ma K (aRule K) "__init__") := He.mkr_ok (T.d.fact 44 (f := .mkr "Rule") rfl)
theorem Txt.m_Rule_len (T : Txt K mg) : Meth K (aRule K) "__len__" (He.ma K (aRule K) "__len__") := He.meth_ok (T.d.fact 45 (f := .meth "Rule" "__len__") rfl)
theorem Txt.m_Rule_eq (T : Txt K mg) : Meth K (aRule K) "__eq__" (He.ma K (aRule K) "__eq__") := He.meth_ok (T.d.fact 46 (f := .meth "Rule" "__eq__") rfl)
theorem Txt.m_Rule_without (T : Txt K mg) : Meth K (aRule K) "without" (He.ma K (aRule K) "without") := He.meth_ok (T.d.fact 47 (f := .meth "Rule" "without") rfl)
theorem Txt.g_State (T : Txt K mg) : mg "State" = some (.ref (He.ga K "State")) := by
  obtain ⟨hp, X, G⟩ := T.h
  exact He.glo_ok X G (T.d.fact 48 (f := .glo "State") rfl)
theorem Txt.cl_State (T : Txt K mg) : Cls K (aState K) := He.cls_ok (T.d.fact 49 (f := .cls "State") rfl)
theorem Txt.na_State_upper (T : Txt K mg) : NoAttr K (aState K) "upper" := He.noat_ok (T.d.fact 50 (f := .noat "State" "upper") rfl)
theorem Txt.na_State_here (T : Txt K mg) : NoAttr K (aState K) "here" := He.noat_ok (T.d.fact 51 (f := .noat "State" "here") rfl)
theorem Txt.na_State_before (T : Txt K mg) : NoAttr K (aState K) "before" := He.noat_ok (T.d.fact 52 (f := .noat "State" "before") rfl)
theorem Txt.na_State_wish (T : Txt K mg) : NoAttr K (aState K) "wish" := He.noat_ok (T.d.fact 53 (f := .noat "State" "wish") rfl)
theorem Txt.na_State_is_mine (T : Txt K mg) : NoAttr K (aState K) "is_mine" := He.noat_ok (T.d.fact 54 (f := .noat "State" "is_mine") rfl)
theorem Txt.mk_State (T : Txt K mg) : Mk K (aState K) (He.ma K (aState K) "__init__") := He.mkr_ok (T.d.fact 55 (f := .mkr "State") rfl)
theorem Txt.m_State_value (T : Txt K mg) : Meth K (aState K) "value" (He.ma K (aState K) "value") := He.meth_ok (T.d.fact 56 (f := .meth "State" "value") rfl)
theorem Txt.m_State_is_so (T : Txt K mg) : Meth K (aState K) "is_so" (He.ma K (aState K) "is_so") := He.meth_ok (T.d.fact 57 (f := .meth "State" "is_so") rfl)
theorem Txt.m_State_row_for (T : Txt K mg) : Meth K (aState K) "row_for" (He.ma K (aState K) "row_for") := He.meth_ok (T.d.fact 58 (f := .meth "State" "row_for") rfl)
theorem Txt.m_State_due (T : Txt K mg) : Meth K (aState K) "due" (He.ma K (aState K) "due") := He.meth_ok (T.d.fact 59 (f := .meth "State" "due") rfl)
theorem Txt.m_State_word (T : Txt K mg) : Meth K (aState K) "word" (He.ma K (aState K) "word") := He.meth_ok (T.d.fact 60 (f := .meth "State" "word") rfl)
theorem Txt.m_State_carried (T : Txt K mg) : Meth K (aState K) "carried" (He.ma K (aState K) "carried") := He.meth_ok (T.d.fact 61 (f := .meth "State" "carried") rfl)
theorem Txt.m_State_faults_of (T : Txt K mg) : Meth K (aState K) "faults_of" (He.ma K (aState K) "faults_of") := He.meth_ok (T.d.fact 62 (f := .meth "State" "faults_of") rfl)
theorem Txt.m_State_edited (T : Txt K mg) : Meth K (aState K) "edited" (He.ma K (aState K) "edited") := He.meth_ok (T.d.fact 63 (f := .meth "State" "edited") rfl)
theorem Txt.m_State_put_back (T : Txt K mg) : Meth K (aState K) "put_back" (He.ma K (aState K) "put_back") := He.meth_ok (T.d.fact 64 (f := .meth "State" "put_back") rfl)
theorem Txt.m_State_changed (T : Txt K mg) : Meth K (aState K) "changed" (He.ma K (aState K) "changed") := He.meth_ok (T.d.fact 65 (f := .meth "State" "changed") rfl)
theorem Txt.m_State_parts (T : Txt K mg) : Meth K (aState K) "parts" (He.ma K (aState K) "parts") := He.meth_ok (T.d.fact 66 (f := .meth "State" "parts") rfl)
theorem Txt.g_Walk (T : Txt K mg) : mg "Walk" = some (.ref (He.ga K "Walk")) := by
  obtain ⟨hp, X, G⟩ := T.h
  exact He.glo_ok X G (T.d.fact 67 (f := .glo "Walk") rfl)
theorem Txt.cl_Walk (T : Txt K mg) : Cls K (aWalk K) := He.cls_ok (T.d.fact 68 (f := .cls "Walk") rfl)
theorem Txt.na_Walk_spots (T : Txt K mg) : NoAttr K (aWalk K) "spots" := He.noat_ok (T.d.fact 69 (f := .noat "Walk" "spots") rfl)
theorem Txt.na_Walk_histories (T : Txt K mg) : NoAttr K (aWalk K) "histories" := He.noat_ok (T.d.fact 70 (f := .noat "Walk" "histories") rfl)
theorem Txt.na_Walk_known (T : Txt K mg) : NoAttr K (aWalk K) "known" := He.noat_ok (T.d.fact 71 (f := .noat "Walk" "known") rfl)
theorem Txt.mk_Walk (T : Txt K mg) : Mk K (aWalk K) (He.ma K (aWalk K) "__init__") := He.mkr_ok (T.d.fact 72 (f := .mkr "Walk") rfl)
theorem Txt.m_Walk_reach (T : Txt K mg) : Meth K (aWalk K) "reach" (He.ma K (aWalk K) "reach") := He.meth_ok (T.d.fact 73 (f := .meth "Walk" "reach") rfl)
theorem Txt.z_all (T : Txt K mg) : mg "all" = none := by
  obtain ⟨hp, X, G⟩ := T.h
  exact He.free_ok X G (T.d.fact 74 (f := .free "all") rfl)
theorem Txt.z_bool (T : Txt K mg) : mg "bool" = none := by
  obtain ⟨hp, X, G⟩ := T.h
  exact He.free_ok X G (T.d.fact 75 (f := .free "bool") rfl)
theorem Txt.z_dict (T : Txt K mg) : mg "dict" = none := by
  obtain ⟨hp, X, G⟩ := T.h
  exact He.free_ok X G (T.d.fact 76 (f := .free "dict") rfl)
theorem Txt.z_enumerate (T : Txt K mg) : mg "enumerate" = none := by
  obtain ⟨hp, X, G⟩ := T.h
  exact He.free_ok X G (T.d.fact 77 (f := .free "enumerate") rfl)
theorem Txt.z_int (T : Txt K mg) : mg "int" = none := by
  obtain ⟨hp, X, G⟩ := T.h
  exact He.free_ok X G (T.d.fact 78 (f := .free "int") rfl)
theorem Txt.z_isinstance (T : Txt K mg) : mg "isinstance" = none := by
  obtain ⟨hp, X, G⟩ := T.h
  exact He.free_ok X G (T.d.fact 79 (f := .free "isinstance") rfl)
theorem Txt.z_len (T : Txt K mg) : mg "len" = none := by
  obtain ⟨hp, X, G⟩ := T.h
  exact He.free_ok X G (T.d.fact 80 (f := .free "len") rfl)
theorem Txt.z_list (T : Txt K mg) : mg "list" = none := by
  obtain ⟨hp, X, G⟩ := T.h
  exact He.free_ok X G (T.d.fact 81 (f := .free "list") rfl)
theorem Txt.z_max (T : Txt K mg) : mg "max" = none := by
  obtain ⟨hp, X, G⟩ := T.h
  exact He.free_ok X G (T.d.fact 82 (f := .free "max") rfl)
theorem Txt.z_min (T : Txt K mg) : mg "min" = none := by
  obtain ⟨hp, X, G⟩ := T.h
  exact He.free_ok X G (T.d.fact 83 (f := .free "min") rfl)
theorem Txt.z_range (T : Txt K mg) : mg "range" = none := by
  obtain ⟨hp, X, G⟩ := T.h
  exact He.free_ok X G (T.d.fact 84 (f := .free "range") rfl)
theorem Txt.z_set (T : Txt K mg) : mg "set" = none := by
  obtain ⟨hp, X, G⟩ := T.h
  exact He.free_ok X G (T.d.fact 85 (f := .free "set") rfl)
theorem Txt.z_sorted (T : Txt K mg) : mg "sorted" = none := by
  obtain ⟨hp, X, G⟩ := T.h
  exact He.free_ok X G (T.d.fact 86 (f := .free "sorted") rfl)
theorem Txt.z_str (T : Txt K mg) : mg "str" = none := by
  obtain ⟨hp, X, G⟩ := T.h
  exact He.free_ok X G (T.d.fact 87 (f := .free "str") rfl)
theorem Txt.z_super (T : Txt K mg) : mg "super" = none := by
  obtain ⟨hp, X, G⟩ := T.h
  exact He.free_ok X G (T.d.fact 88 (f := .free "super") rfl)
theorem Txt.z_tuple (T : Txt K mg) : mg "tuple" = none := by
  obtain ⟨hp, X, G⟩ := T.h
  exact He.free_ok X G (T.d.fact 89 (f := .free "tuple") rfl)
theorem Txt.z_zip (T : Txt K mg) : mg "zip" = none := by
  obtain ⟨hp, X, G⟩ := T.h
  exact He.free_ok X G (T.d.fact 90 (f := .free "zip") rfl)
theorem Txt.f_is_integer (T : Txt K mg) : ∃ fd, FunD K "is_integer" "is_integer" (defArgs s_is_integer) (defBody s_is_integer) (defScope s_is_integer) [] [] (He.fAd K ("is_integer", none)) fd := T.d.def_ 0 (d := d_is_integer) rfl
theorem Txt.f_is_word (T : Txt K mg) : ∃ fd, FunD K "is_word" "is_word" (defArgs s_is_word) (defBody s_is_word) (defScope s_is_word) [] [] (He.fAd K ("is_word", none)) fd := T.d.def_ 1 (d := d_is_word) rfl
theorem Txt.f_are_notes (T : Txt K mg) : ∃ fd, FunD K "are_notes" "are_notes" (defArgs s_are_notes) (defBody s_are_notes) (defScope s_are_notes) [] [] (He.fAd K ("are_notes", none)) fd := T.d.def_ 2 (d := d_are_notes) rfl
theorem Txt.f_is_test (T : Txt K mg) : ∃ fd, FunD K "is_test" "is_test" (defArgs s_is_test) (defBody s_is_test) (defScope s_is_test) [] [] (He.fAd K ("is_test", none)) fd := T.d.def_ 3 (d := d_is_test) rfl
theorem Txt.f_is_row (T : Txt K mg) : ∃ fd, FunD K "is_row" "is_row" (defArgs s_is_row) (defBody s_is_row) (defScope s_is_row) [] [] (He.fAd K ("is_row", none)) fd := T.d.def_ 4 (d := d_is_row) rfl
theorem Txt.f_Rule_init (T : Txt K mg) : ∃ fd, FunD K "__init__" "Rule.__init__" (defArgs s_Rule_init) (defBody s_Rule_init) (defScope s_Rule_init) [] [] (He.fAd K ("Rule", some "__init__")) fd := T.d.def_ 5 (d := d_Rule_init) rfl
theorem Txt.f_Rule_len (T : Txt K mg) : ∃ fd, FunD K "__len__" "Rule.__len__" (defArgs s_Rule_len) (defBody s_Rule_len) (defScope s_Rule_len) [] [] (He.fAd K ("Rule", some "__len__")) fd := T.d.def_ 6 (d := d_Rule_len) rfl
theorem Txt.f_Rule_eq (T : Txt K mg) : ∃ fd, FunD K "__eq__" "Rule.__eq__" (defArgs s_Rule_eq) (defBody s_Rule_eq) (defScope s_Rule_eq) [] [] (He.fAd K ("Rule", some "__eq__")) fd := T.d.def_ 7 (d := d_Rule_eq) rfl
theorem Txt.f_Rule_without (T : Txt K mg) : ∃ fd, FunD K "without" "Rule.without" (defArgs s_Rule_without) (defBody s_Rule_without) (defScope s_Rule_without) [] [] (He.fAd K ("Rule", some "without")) fd := T.d.def_ 8 (d := d_Rule_without) rfl
theorem Txt.f_State_init (T : Txt K mg) : ∃ fd, FunD K "__init__" "State.__init__" (defArgs s_State_init) (defBody s_State_init) (defScope s_State_init) [] [] (He.fAd K ("State", some "__init__")) fd := T.d.def_ 9 (d := d_State_init) rfl
theorem Txt.f_State_value (T : Txt K mg) : ∃ fd, FunD K "value" "State.value" (defArgs s_State_value) (defBody s_State_value) (defScope s_State_value) [] [] (He.fAd K ("State", some "value")) fd := T.d.def_ 10 (d := d_State_value) rfl
theorem Txt.f_State_is_so (T : Txt K mg) : ∃ fd, FunD K "is_so" "State.is_so" (defArgs s_State_is_so) (defBody s_State_is_so) (defScope s_State_is_so) [] [] (He.fAd K ("State", some "is_so")) fd := T.d.def_ 11 (d := d_State_is_so) rfl
theorem Txt.f_State_row_for (T : Txt K mg) : ∃ fd, FunD K "row_for" "State.row_for" (defArgs s_State_row_for) (defBody s_State_row_for) (defScope s_State_row_for) [] [] (He.fAd K ("State", some "row_for")) fd := T.d.def_ 12 (d := d_State_row_for) rfl
theorem Txt.f_State_due (T : Txt K mg) : ∃ fd, FunD K "due" "State.due" (defArgs s_State_due) (defBody s_State_due) (defScope s_State_due) [] [] (He.fAd K ("State", some "due")) fd := T.d.def_ 13 (d := d_State_due) rfl
theorem Txt.f_State_word (T : Txt K mg) : ∃ fd, FunD K "word" "State.word" (defArgs s_State_word) (defBody s_State_word) (defScope s_State_word) [] [] (He.fAd K ("State", some "word")) fd := T.d.def_ 14 (d := d_State_word) rfl
theorem Txt.f_State_carried (T : Txt K mg) : ∃ fd, FunD K "carried" "State.carried" (defArgs s_State_carried) (defBody s_State_carried) (defScope s_State_carried) [] [] (He.fAd K ("State", some "carried")) fd := T.d.def_ 15 (d := d_State_carried) rfl
theorem Txt.f_State_faults_of (T : Txt K mg) : ∃ fd, FunD K "faults_of" "State.faults_of" (defArgs s_State_faults_of) (defBody s_State_faults_of) (defScope s_State_faults_of) [] [] (He.fAd K ("State", some "faults_of")) fd := T.d.def_ 16 (d := d_State_faults_of) rfl
theorem Txt.f_State_edited (T : Txt K mg) : ∃ fd, FunD K "edited" "State.edited" (defArgs s_State_edited) (defBody s_State_edited) (defScope s_State_edited) [] [] (He.fAd K ("State", some "edited")) fd := T.d.def_ 17 (d := d_State_edited) rfl
theorem Txt.f_State_put_back (T : Txt K mg) : ∃ fd, FunD K "put_back" "State.put_back" (defArgs s_State_put_back) (defBody s_State_put_back) (defScope s_State_put_back) [] [] (He.fAd K ("State", some "put_back")) fd := T.d.def_ 18 (d := d_State_put_back) rfl
theorem Txt.f_State_changed (T : Txt K mg) : ∃ fd, FunD K "changed" "State.changed" (defArgs s_State_changed) (defBody s_State_changed) (defScope s_State_changed) [] [] (He.fAd K ("State", some "changed")) fd := T.d.def_ 19 (d := d_State_changed) rfl
theorem Txt.f_State_parts (T : Txt K mg) : ∃ fd, FunD K "parts" "State.parts" (defArgs s_State_parts) (defBody s_State_parts) (defScope s_State_parts) [] [] (He.fAd K ("State", some "parts")) fd := T.d.def_ 20 (d := d_State_parts) rfl
theorem Txt.f_first_state (T : Txt K mg) : ∃ fd, FunD K "first_state" "first_state" (defArgs s_first_state) (defBody s_first_state) (defScope s_first_state) [] [] (He.fAd K ("first_state", none)) fd := T.d.def_ 21 (d := d_first_state) rfl
theorem Txt.f_happened (T : Txt K mg) : ∃ fd, FunD K "happened" "happened" (defArgs s_happened) (defBody s_happened) (defScope s_happened) [] [] (He.fAd K ("happened", none)) fd := T.d.def_ 22 (d := d_happened) rfl
theorem Txt.f_words_of (T : Txt K mg) : ∃ fd, FunD K "words_of" "words_of" (defArgs s_words_of) (defBody s_words_of) (defScope s_words_of) [] [] (He.fAd K ("words_of", none)) fd := T.d.def_ 23 (d := d_words_of) rfl
theorem Txt.f_values_for (T : Txt K mg) : ∃ fd, FunD K "values_for" "values_for" (defArgs s_values_for) (defBody s_values_for) (defScope s_values_for) [] [] (He.fAd K ("values_for", none)) fd := T.d.def_ 24 (d := d_values_for) rfl
theorem Txt.f_events_for (T : Txt K mg) : ∃ fd, FunD K "events_for" "events_for" (defArgs s_events_for) (defBody s_events_for) (defScope s_events_for) [] [] (He.fAd K ("events_for", none)) fd := T.d.def_ 25 (d := d_events_for) rfl
theorem Txt.f_Walk_init (T : Txt K mg) : ∃ fd, FunD K "__init__" "Walk.__init__" (defArgs s_Walk_init) (defBody s_Walk_init) (defScope s_Walk_init) [] [] (He.fAd K ("Walk", some "__init__")) fd := T.d.def_ 26 (d := d_Walk_init) rfl
theorem Txt.f_Walk_reach (T : Txt K mg) : ∃ fd, FunD K "reach" "Walk.reach" (defArgs s_Walk_reach) (defBody s_Walk_reach) (defScope s_Walk_reach) [] [] (He.fAd K ("Walk", some "reach")) fd := T.d.def_ 27 (d := d_Walk_reach) rfl
theorem Txt.f_common_key (T : Txt K mg) : ∃ fd, FunD K "common_key" "common_key" (defArgs s_common_key) (defBody s_common_key) (defScope s_common_key) [] [] (He.fAd K ("common_key", none)) fd := T.d.def_ 28 (d := d_common_key) rfl
theorem Txt.f_with_event (T : Txt K mg) : ∃ fd, FunD K "with_event" "with_event" (defArgs s_with_event) (defBody s_with_event) (defScope s_with_event) [] [] (He.fAd K ("with_event", none)) fd := T.d.def_ 29 (d := d_with_event) rfl
theorem Txt.f_walked (T : Txt K mg) : ∃ fd, FunD K "walked" "walked" (defArgs s_walked) (defBody s_walked) (defScope s_walked) [] [] (He.fAd K ("walked", none)) fd := T.d.def_ 30 (d := d_walked) rfl
theorem Txt.f_fault_behind (T : Txt K mg) : ∃ fd, FunD K "fault_behind" "fault_behind" (defArgs s_fault_behind) (defBody s_fault_behind) (defScope s_fault_behind) [] [] (He.fAd K ("fault_behind", none)) fd := T.d.def_ 31 (d := d_fault_behind) rfl
theorem Txt.f_faults_by (T : Txt K mg) : ∃ fd, FunD K "faults_by" "faults_by" (defArgs s_faults_by) (defBody s_faults_by) (defScope s_faults_by) [] [] (He.fAd K ("faults_by", none)) fd := T.d.def_ 32 (d := d_faults_by) rfl
theorem Txt.f_rules_with (T : Txt K mg) : ∃ fd, FunD K "rules_with" "rules_with" (defArgs s_rules_with) (defBody s_rules_with) (defScope s_rules_with) [] [] (He.fAd K ("rules_with", none)) fd := T.d.def_ 33 (d := d_rules_with) rfl
theorem Txt.f_right_rule_by (T : Txt K mg) : ∃ fd, FunD K "right_rule_by" "right_rule_by" (defArgs s_right_rule_by) (defBody s_right_rule_by) (defScope s_right_rule_by) [] [] (He.fAd K ("right_rule_by", none)) fd := T.d.def_ 34 (d := d_right_rule_by) rfl
theorem Txt.f_right_rule (T : Txt K mg) : ∃ fd, FunD K "right_rule" "right_rule" (defArgs s_right_rule) (defBody s_right_rule) (defScope s_right_rule) [] [("events", V.non)] (He.fAd K ("right_rule", none)) fd := T.d.def_ 35 (d := d_right_rule) rfl
theorem Txt.f_fewest_notes (T : Txt K mg) : ∃ fd, FunD K "fewest_notes" "fewest_notes" (defArgs s_fewest_notes) (defBody s_fewest_notes) (defScope s_fewest_notes) [] [("events", V.non)] (He.fAd K ("fewest_notes", none)) fd := T.d.def_ 36 (d := d_fewest_notes) rfl
theorem Txt.f_law_mix (T : Txt K mg) : ∃ fd, FunD K "_law_mix" "_law_mix" (defArgs s_law_mix) (defBody s_law_mix) (defScope s_law_mix) [] [] (He.fAd K ("_law_mix", none)) fd := T.d.def_ 37 (d := d_law_mix) rfl
theorem Txt.f_law_next (T : Txt K mg) : ∃ fd, FunD K "_law_next" "_law_next" (defArgs s_law_next) (defBody s_law_next) (defScope s_law_next) [] [] (He.fAd K ("_law_next", none)) fd := T.d.def_ 38 (d := d_law_next) rfl
theorem Txt.f_law_alike (T : Txt K mg) : ∃ fd, FunD K "_law_alike" "_law_alike" (defArgs s_law_alike) (defBody s_law_alike) (defScope s_law_alike) [] [] (He.fAd K ("_law_alike", none)) fd := T.d.def_ 39 (d := d_law_alike) rfl
theorem Txt.f_law_pick (T : Txt K mg) : ∃ fd, FunD K "_law_pick" "_law_pick" (defArgs s_law_pick) (defBody s_law_pick) (defScope s_law_pick) [] [] (He.fAd K ("_law_pick", none)) fd := T.d.def_ 40 (d := d_law_pick) rfl
theorem Txt.f_law_new (T : Txt K mg) : ∃ fd, FunD K "_law_new" "_law_new" (defArgs s_law_new) (defBody s_law_new) (defScope s_law_new) [] [] (He.fAd K ("_law_new", none)) fd := T.d.def_ 41 (d := d_law_new) rfl
theorem Txt.f_law_spot (T : Txt K mg) : ∃ fd, FunD K "_law_spot" "_law_spot" (defArgs s_law_spot) (defBody s_law_spot) (defScope s_law_spot) [] [] (He.fAd K ("_law_spot", none)) fd := T.d.def_ 42 (d := d_law_spot) rfl
theorem Txt.f_law_so (T : Txt K mg) : ∃ fd, FunD K "_law_so" "_law_so" (defArgs s_law_so) (defBody s_law_so) (defScope s_law_so) [] [] (He.fAd K ("_law_so", none)) fd := T.d.def_ 43 (d := d_law_so) rfl
theorem Txt.f_law_row (T : Txt K mg) : ∃ fd, FunD K "_law_row" "_law_row" (defArgs s_law_row) (defBody s_law_row) (defScope s_law_row) [] [] (He.fAd K ("_law_row", none)) fd := T.d.def_ 44 (d := d_law_row) rfl
theorem Txt.f_law_carried (T : Txt K mg) : ∃ fd, FunD K "_law_carried" "_law_carried" (defArgs s_law_carried) (defBody s_law_carried) (defScope s_law_carried) [] [] (He.fAd K ("_law_carried", none)) fd := T.d.def_ 45 (d := d_law_carried) rfl
theorem Txt.f_law_done (T : Txt K mg) : ∃ fd, FunD K "_law_done" "_law_done" (defArgs s_law_done) (defBody s_law_done) (defScope s_law_done) [] [] (He.fAd K ("_law_done", none)) fd := T.d.def_ 46 (d := d_law_done) rfl
theorem Txt.f_law_due (T : Txt K mg) : ∃ fd, FunD K "_law_due" "_law_due" (defArgs s_law_due) (defBody s_law_due) (defScope s_law_due) [] [] (He.fAd K ("_law_due", none)) fd := T.d.def_ 47 (d := d_law_due) rfl
theorem Txt.f_law_key (T : Txt K mg) : ∃ fd, FunD K "_law_key" "_law_key" (defArgs s_law_key) (defBody s_law_key) (defScope s_law_key) [] [] (He.fAd K ("_law_key", none)) fd := T.d.def_ 48 (d := d_law_key) rfl
theorem Txt.f_law_choices (T : Txt K mg) : ∃ fd, FunD K "_law_choices" "_law_choices" (defArgs s_law_choices) (defBody s_law_choices) (defScope s_law_choices) [] [] (He.fAd K ("_law_choices", none)) fd := T.d.def_ 49 (d := d_law_choices) rfl
theorem Txt.f_law_layers (T : Txt K mg) : ∃ fd, FunD K "_law_layers" "_law_layers" (defArgs s_law_layers) (defBody s_law_layers) (defScope s_law_layers) [] [] (He.fAd K ("_law_layers", none)) fd := T.d.def_ 50 (d := d_law_layers) rfl
theorem Txt.f_law_words (T : Txt K mg) : ∃ fd, FunD K "_law_words" "_law_words" (defArgs s_law_words) (defBody s_law_words) (defScope s_law_words) [] [] (He.fAd K ("_law_words", none)) fd := T.d.def_ 51 (d := d_law_words) rfl
theorem Txt.f_law_sight (T : Txt K mg) : ∃ fd, FunD K "_law_sight" "_law_sight" (defArgs s_law_sight) (defBody s_law_sight) (defScope s_law_sight) [] [] (He.fAd K ("_law_sight", none)) fd := T.d.def_ 52 (d := d_law_sight) rfl
theorem Txt.f_law_conflict (T : Txt K mg) : ∃ fd, FunD K "_law_conflict" "_law_conflict" (defArgs s_law_conflict) (defBody s_law_conflict) (defScope s_law_conflict) [] [] (He.fAd K ("_law_conflict", none)) fd := T.d.def_ 53 (d := d_law_conflict) rfl
theorem Txt.f_law_served (T : Txt K mg) : ∃ fd, FunD K "_law_served" "_law_served" (defArgs s_law_served) (defBody s_law_served) (defScope s_law_served) [] [] (He.fAd K ("_law_served", none)) fd := T.d.def_ 54 (d := d_law_served) rfl
theorem Txt.f_law_faultless (T : Txt K mg) : ∃ fd, FunD K "_law_faultless" "_law_faultless" (defArgs s_law_faultless) (defBody s_law_faultless) (defScope s_law_faultless) [] [] (He.fAd K ("_law_faultless", none)) fd := T.d.def_ 55 (d := d_law_faultless) rfl
theorem Txt.f_law_refused (T : Txt K mg) : ∃ fd, FunD K "_law_refused" "_law_refused" (defArgs s_law_refused) (defBody s_law_refused) (defScope s_law_refused) [] [] (He.fAd K ("_law_refused", none)) fd := T.d.def_ 56 (d := d_law_refused) rfl
theorem Txt.f_law (T : Txt K mg) : ∃ fd, FunD K "law" "law" (defArgs s_law) (defBody s_law) (defScope s_law) [] [] (He.fAd K ("law", none)) fd := T.d.def_ 57 (d := d_law) rfl
theorem Txt.c_MOST_ROWS (T : Txt K mg) : ∃ u, mg "MOST_ROWS" = some u ∧ RelV (.int 8) u := by
  obtain ⟨v, h1, h2⟩ := T.cst 0
  cases h2 fun _ => none
  exact h1
theorem Txt.c_MOST_TESTS (T : Txt K mg) : ∃ u, mg "MOST_TESTS" = some u ∧ RelV (.int 4) u := by
  obtain ⟨v, h1, h2⟩ := T.cst 1
  cases h2 fun _ => none
  exact h1
theorem Txt.c_ALL_NOTES (T : Txt K mg) : ∃ a, (∃ u, mg "ALL_NOTES" = some u ∧ RelV (.ref a) u) ∧ ∀ H, Dp K H (.ref a) (.tuple [.tuple [], .tuple [.str "base"], .tuple [.str "mine"], .tuple [.str "base", .str "mine"]]) := by
  obtain ⟨v, h1, h2⟩ := T.cst 2
  cases h2 fun _ => none with
  | tup h3 h4 => exact ⟨_, h1, h2⟩
theorem Txt.c_SPOTS (T : Txt K mg) : ∃ a, (∃ u, mg "SPOTS" = some u ∧ RelV (.ref a) u) ∧ ∀ H, Dp K H (.ref a) (.tuple [.str "own", .str "above", .str "base"]) := by
  obtain ⟨v, h1, h2⟩ := T.cst 3
  cases h2 fun _ => none with
  | tup h3 h4 => exact ⟨_, h1, h2⟩
theorem Txt.c_PAIRS (T : Txt K mg) : ∃ a, (∃ u, mg "PAIRS" = some u ∧ RelV (.ref a) u) ∧ ∀ H, Dp K H (.ref a) (.tuple [.str "same", .str "unlike"]) := by
  obtain ⟨v, h1, h2⟩ := T.cst 4
  cases h2 fun _ => none with
  | tup h3 h4 => exact ⟨_, h1, h2⟩
theorem Txt.c_SINGLES (T : Txt K mg) : ∃ a, (∃ u, mg "SINGLES" = some u ∧ RelV (.ref a) u) ∧ ∀ H, Dp K H (.ref a) (.tuple [.str "there", .str "gone"]) := by
  obtain ⟨v, h1, h2⟩ := T.cst 5
  cases h2 fun _ => none with
  | tup h3 h4 => exact ⟨_, h1, h2⟩
theorem Txt.c_FLAGS (T : Txt K mg) : ∃ a, (∃ u, mg "FLAGS" = some u ∧ RelV (.ref a) u) ∧ ∀ H, Dp K H (.ref a) (.tuple [.str "mine", .str "free"]) := by
  obtain ⟨v, h1, h2⟩ := T.cst 6
  cases h2 fun _ => none with
  | tup h3 h4 => exact ⟨_, h1, h2⟩
theorem Txt.c_ANSWERS (T : Txt K mg) : ∃ a, (∃ u, mg "ANSWERS" = some u ∧ RelV (.ref a) u) ∧ ∀ H, Dp K H (.ref a) (.tuple [.str "yes", .str "no"]) := by
  obtain ⟨v, h1, h2⟩ := T.cst 7
  cases h2 fun _ => none with
  | tup h3 h4 => exact ⟨_, h1, h2⟩
theorem Txt.c_ACTIONS (T : Txt K mg) : ∃ a, (∃ u, mg "ACTIONS" = some u ∧ RelV (.ref a) u) ∧ ∀ H, Dp K H (.ref a) (.tuple [.str "take", .str "keep", .str "drop", .str "claim"]) := by
  obtain ⟨v, h1, h2⟩ := T.cst 8
  cases h2 fun _ => none with
  | tup h3 h4 => exact ⟨_, h1, h2⟩
theorem Txt.c_KEEP (T : Txt K mg) : ∃ u, mg "KEEP" = some u ∧ RelV (.str "keep") u := by
  obtain ⟨v, h1, h2⟩ := T.cst 9
  cases h2 fun _ => none
  exact h1
theorem Txt.c_EVERY (T : Txt K mg) : ∃ u, mg "EVERY" = some u ∧ RelV (.str "every") u := by
  obtain ⟨v, h1, h2⟩ := T.cst 10
  cases h2 fun _ => none
  exact h1
theorem Txt.c_CHANGED (T : Txt K mg) : ∃ u, mg "CHANGED" = some u ∧ RelV (.str "changed") u := by
  obtain ⟨v, h1, h2⟩ := T.cst 11
  cases h2 fun _ => none
  exact h1
theorem Txt.c_LOST (T : Txt K mg) : ∃ u, mg "LOST" = some u ∧ RelV (.str "lost") u := by
  obtain ⟨v, h1, h2⟩ := T.cst 12
  cases h2 fun _ => none
  exact h1
theorem Txt.c_MISSED (T : Txt K mg) : ∃ u, mg "MISSED" = some u ∧ RelV (.str "missed") u := by
  obtain ⟨v, h1, h2⟩ := T.cst 13
  cases h2 fun _ => none
  exact h1
theorem Txt.c_WAYS (T : Txt K mg) : ∃ a, (∃ u, mg "WAYS" = some u ∧ RelV (.ref a) u) ∧ ∀ H, Dp K H (.ref a) (.tuple [.str "changed", .str "every"]) := by
  obtain ⟨v, h1, h2⟩ := T.cst 14
  cases h2 fun _ => none with
  | tup h3 h4 => exact ⟨_, h1, h2⟩
theorem Txt.c_EVENTS (T : Txt K mg) : ∃ a, (∃ u, mg "EVENTS" = some u ∧ RelV (.ref a) u) ∧ ∀ H, Dp K H (.ref a) (.tuple [.str "change", .str "delete", .str "set", .str "remove", .str "back"]) := by
  obtain ⟨v, h1, h2⟩ := T.cst 15
  cases h2 fun _ => none with
  | tup h3 h4 => exact ⟨_, h1, h2⟩
theorem Txt.c_WORDS (T : Txt K mg) : ∃ a, (∃ u, mg "WORDS" = some u ∧ RelV (.ref a) u) ∧ ∀ H, Dp K H (.ref a) (.tuple [.str "lost", .str "missed"]) := by
  obtain ⟨v, h1, h2⟩ := T.cst 16
  cases h2 fun _ => none with
  | tup h3 h4 => exact ⟨_, h1, h2⟩
theorem Txt.c_FREE (T : Txt K mg) : ∃ a, (∃ u, mg "FREE" = some u ∧ RelV (.ref a) u) ∧ ∀ H, Dp K H (.ref a) (.tuple [.tuple [.str "free"]]) := by
  obtain ⟨v, h1, h2⟩ := T.cst 17
  cases h2 fun _ => none with
  | tup h3 h4 => exact ⟨_, h1, h2⟩
theorem Txt.c_SAME (T : Txt K mg) : ∃ a, (∃ u, mg "SAME" = some u ∧ RelV (.ref a) u) ∧ ∀ H, Dp K H (.ref a) (.tuple [.tuple [.str "same", .str "own", .str "base"]]) := by
  obtain ⟨v, h1, h2⟩ := T.cst 18
  cases h2 fun _ => none with
  | tup h3 h4 => exact ⟨_, h1, h2⟩
theorem Txt.c_DELETED (T : Txt K mg) : ∃ a, (∃ u, mg "DELETED" = some u ∧ RelV (.ref a) u) ∧ ∀ H, Dp K H (.ref a) (.tuple [.tuple [.str "there", .str "own"], .tuple [.str "gone", .str "above"]]) := by
  obtain ⟨v, h1, h2⟩ := T.cst 19
  cases h2 fun _ => none with
  | tup h3 h4 => exact ⟨_, h1, h2⟩
theorem Txt.p_Rule_notes (T : Txt K mg) : PropOf K (aRule K) "notes" (prA K ("Rule", "notes")) (prG K ("Rule", "notes")) := T.prp 0 (c := ("Rule", "notes"))
theorem Txt.p_Rule_rows (T : Txt K mg) : PropOf K (aRule K) "rows" (prA K ("Rule", "rows")) (prG K ("Rule", "rows")) := T.prp 1 (c := ("Rule", "rows"))
theorem Txt.iw (T : Txt K mg) : irW K = irWv := congrArg (fun z : AlC => z.2.2.1) T.c
theorem Txt.ib (T : Txt K mg) : irB K = true := (He.ba (He.ba (He.ba T.e).2).2).1
theorem Txt.gt_notes (T : Txt K mg) : ∃ fd, FunD K "notes" "Rule.notes" (defArgs s_Rule_notes) (defBody s_Rule_notes) (defScope s_Rule_notes) [] [] (prG K ("Rule", "notes")) fd := gt_fun (congrArg (fun z : AlC => z.2.2.2.1) T.c) (He.ba (He.ba (He.ba (He.ba T.e).2).2).2).1
theorem Txt.gt_rows (T : Txt K mg) : ∃ fd, FunD K "rows" "Rule.rows" (defArgs s_Rule_rows) (defBody s_Rule_rows) (defScope s_Rule_rows) [] [] (prG K ("Rule", "rows")) fd := gt_fun (congrArg (fun z : AlC => z.2.2.2.2) T.c) (He.ba (He.ba (He.ba (He.ba (He.ba T.e).2).2).2).2).1
theorem Txt.isRl (T : Txt K mg) : (∀ {H : Hp} {a dx : Addr} {fs : List (Str × V)}, H a = some (.ins (aRule K) dx fs) → TyX K H (.ref a) (.ref (aRule K))) ∧ PySem.W.kitOne K (.ref (aRule K)) (.ref (aRule K)) = some true := by
  obtain ⟨b1, b⟩ := He.ba (He.ba (He.ba (He.ba (He.ba (He.ba T.e).2).2).2).2).2
  obtain ⟨b2, b⟩ := He.ba b
  obtain ⟨b3, b⟩ := He.ba b
  obtain ⟨b4, b5⟩ := He.ba b
  exact ⟨fun h => .base (.ins h T.cl_Rule (He.eqO_ok b1) (He.eqO_ok b2) (of_decide_eq_true b3) (of_decide_eq_true b4)), of_decide_eq_true b5⟩
structure IrFacts (K : PySem.W.Frag) : Prop where
  cls : irClassB K = true
  fn : irFnB K = true
  sa : PySem.W.findIn K (.ref (irC K)) "__setattr__" = some (some (.builtin "object.__setattr__"))
  exC : PySem.W.subIn K (.ref (irC K)) (.type "BaseException") = some true
  tyC : PySem.W.typeIn K (.ref (irC K)) = some (.type "type")
  kC : PySem.W.keepIn K (.ref (irC K)) = true
  xf : XfC K (irC K)
  mro : PySem.W.mroIn K (irC K) (.ref (irC K)) = some true
  sup : PySem.W.ks_superIn K (irC K) (irC K) "__init__" = some (some (.builtin "ValueError.__init__"))
  ve : PySem.W.subIn K (.ref (irC K)) (.type "ValueError") = some true
  third : PySem.W.nsIn K cStatics "thirdparty.any" = some none
  free : PySem.W.nsIn K mainGlobals "super" = some none
  init : PySem.W.findIn K (.ref (irC K)) "__init__" = some (some (.ref (irF K)))
  typ : PySem.W.typeIn K (.ref (irF K)) = some (.type "function")
  no : PySem.W.findIn K (.ref (irC K)) "index" = some none
  exm : PySem.W.exmOne K (.ref (irC K)) (.ref (irC K)) = some true
  glo : PySem.W.nsIn K mainGlobals "InvalidRule" = some (some (.ref (irC K)))
theorem Txt.ir (T : Txt K mg) : IrFacts K := by
  obtain ⟨c1, c⟩ := He.ba T.ib
  obtain ⟨c2, c⟩ := He.ba c
  obtain ⟨c3, c⟩ := He.ba c
  obtain ⟨c4, c⟩ := He.ba c
  obtain ⟨c5, c⟩ := He.ba c
  obtain ⟨c6, c⟩ := He.ba c
  obtain ⟨c7, c⟩ := He.ba c
  obtain ⟨c8, c⟩ := He.ba c
  obtain ⟨c9, c⟩ := He.ba c
  obtain ⟨c10, c⟩ := He.ba c
  obtain ⟨c11, c⟩ := He.ba c
  obtain ⟨c12, c⟩ := He.ba c
  obtain ⟨c13, c⟩ := He.ba c
  obtain ⟨c14, c⟩ := He.ba c
  obtain ⟨c15, c⟩ := He.ba c
  obtain ⟨c16, c17⟩ := He.ba c
  exact ⟨c1, c2, He.eqO_ok c3, of_decide_eq_true c4, of_decide_eq_true c5, c6, xfB_ok c7, of_decide_eq_true c8, He.eqO_ok c9, of_decide_eq_true c10, He.eqO_ok c11, He.eqO_ok c12, He.eqO_ok c13, of_decide_eq_true c14, He.eqO_ok c15, of_decide_eq_true c16, He.eqO_ok c17⟩
theorem Txt.g_IR (T : Txt K mg) : mg "InvalidRule" = some (.ref (irC K)) := by
  obtain ⟨hp, X, G⟩ := T.h
  exact PySem.W.mg_of X G T.ir.glo
/-- what is known of the program's own name and file -/
structure PgOk (P : Program) : Prop where
  file : (P.main.file : Str) = mainFile
  top : (P.main.scope.names.lookup ("super" : Str)).isSome = false
theorem Txt.oex (T : Txt K mg) : OexC K (irC K) := by
  have I := T.ir
  have c := I.cls
  unfold irClassB at c
  cases q : K.lookup (irC K) with
  | none =>
    rw [q] at c
    cases c
  | some o =>
    obtain ⟨oc, dd, dt, sl⟩ := o
    rw [q] at c
    cases oc with
    | type c' =>
      cases dt with
      | cls cd =>
        obtain ⟨e1, c⟩ := He.ba c
        obtain ⟨nm, bs, mro, ns, qn, hd, sn, sub, ab, col, del⟩ := cd
        have c2 : irPartB (irC K) hd del mro sl.toList = true := c
        clear c
        generalize hL : sl.toList = L at c2
        unfold irPartB at c2
        split at c2
        · rename_i C' bm k0 k1 k2 k3 n k5
          obtain ⟨d1, c2⟩ := He.ba c2
          obtain ⟨d2, c2⟩ := He.ba c2
          obtain ⟨d3, c2⟩ := He.ba c2
          obtain ⟨d4, d5⟩ := He.ba c2
          have f1 := of_decide_eq_true d1
          have f2 := of_decide_eq_true d2
          have f3 : del = false := by simpa using d3
          have f4 : hd = true := d4
          have f5 : c' = "type" := of_decide_eq_true e1
          have hsl : sl = #[k0, k1, k2, k3, some (.builtin n), k5] := by
            obtain ⟨l⟩ := sl
            have hs' : l = [k0, k1, k2, k3, some (.builtin n), k5] := hL
            rw [hs']
          subst f2 f3 f4 f5 hsl
          clear hL
          refine ⟨⟨nm, qn, ns, bs, bm, sn, sub, ab, col, dd, k0, k1, k2, k3, k5, ?_, d5⟩, I.sa, I.exC, I.tyC, I.kC⟩
          rw [q, f1]
        · cases c2
      | _ => cases c
    | _ => cases dt <;> cases c
theorem Txt.irOk {P : Program} (T : Txt K mg) (hP : PgOk P) : ∃ cc cda fd, CiX.IrOk P K (irC K) (irF K) cc cda "InvalidRule.__init__" (defArgs s_IR) (defBody s_IR) (defScope s_IR) fd := by
  have I := T.ir
  have c := I.fn
  have e := T.iw
  unfold irFnB at c
  unfold irW at e
  cases q : K.lookup (irF K) with
  | none =>
    rw [q] at c
    cases c
  | some o =>
    obtain ⟨oc, od, dt, sl⟩ := o
    rw [q] at c e
    cases dt with
    | func fd =>
      obtain ⟨n1, n2, n3, n4, n5, n6, n7, n8, n9, n10, n11, n12, n13, n14, n15⟩ := fd
      have e2 : (some (n1, n2, n3, n4, n5, n6, n15) : IrW) = (some ("__init__", "InvalidRule.__init__", defArgs s_IR, .stmts (defBody s_IR), defScope s_IR, mainGlobals, builtinsNs) : IrW) := e
      simp only [Option.some.injEq, Prod.mk.injEq] at e2
      obtain ⟨h1, h2, h3, h4, h5, h6, h7⟩ := e2
      subst h1 h2 h3 h4 h5 h6 h7
      have c2 : irCloB K n7 n13 n8 = true := c
      clear c
      unfold irCloB at c2
      split at c2
      · rename_i n cc cd
        obtain ⟨d1, c2⟩ := He.ba c2
        obtain ⟨d2, c2⟩ := He.ba c2
        obtain ⟨d3, d4⟩ := He.ba c2
        have f1 : n = "__class__" := of_decide_eq_true d1
        subst f1
        refine ⟨cc, cd, _, T.oex, ⟨oc, od, sl, n9, n10, n11, n12, n14, rfl, q⟩, d4, ?_, ?_, hP.top, I.mro, I.sup, I.ve, I.third, I.free, I.init, I.typ⟩
        · unfold irCodeB at d3
          cases q2 : K.lookup cd with
          | none =>
            rw [q2] at d3
            cases d3
          | some o2 =>
            obtain ⟨oc2, od2, dt2, sl2⟩ := o2
            rw [q2] at d3
            cases dt2 with
            | fields vs =>
              have d5 : irFileB vs[2]? = true := d3
              cases q3 : vs[2]? with
              | none =>
                rw [q3] at d5
                cases d5
              | some v =>
                rw [q3] at d5
                cases v with
                | str file tf => exact ⟨oc2, od2, vs, sl2, file, tf, rfl, q3, by rw [hP.file]; exact beq_iff_eq.mpr (of_decide_eq_true d5)⟩
                | _ => cases d5
            | _ => cases d3
        · unfold irCellB at d2
          cases q2 : K.lookup cc with
          | none =>
            rw [q2] at d2
            cases d2
          | some o2 =>
            obtain ⟨oc2, od2, dt2, sl2⟩ := o2
            rw [q2] at d2
            cases dt2 with
            | cell v =>
              cases v with
              | none => cases d2
              | some v =>
                cases v with
                | ref D =>
                  have f : D = irC K := of_decide_eq_true d2
                  subst f
                  exact ⟨oc2, od2, sl2, rfl⟩
                | _ => cases d2
            | _ => cases d2
      · cases c2
    | _ => cases c
end
end Ci

set_option Elab.async false
set_option linter.all false
set_option maxRecDepth 100000
set_option maxHeartbeats 4000000
/-! What the walk speaks of: values, states, rules in the heap; expressions that give something. -/
namespace Ci
open PySem PySem.Spec PyProof.Rows L2 Evl
open C8 (Cal Met Mak pe_c pe_mk pe_mt pe_mt0 pe_gc)

/-! ### from the head's facts to promises -/
section
variable {P : Program} {w : World} {K : PySem.W.Frag} {mg : Str → Option Value} {base : Heap}
theorem calD {x : Str} {st : Stmt} {f : Addr} {fd : FuncData} {N ps : List Str} {k : Nat} {sp : Sp} (F : FunD K x x (defArgs st) (defBody st) (defScope st) [] [] f fd) (hm : mg x = some (.ref f)) (b : Binds K fd ps []) (S : FnScope N ps (defScope st)) (len : ∀ vs H Q E, sp vs H Q E → vs.length = ps.length)
    (hbody : ∀ (cdv : Value) (A : Around) (outer : List Env) (s : Shared) (H : Hp) (vs : List V) (Q : VK) (E : XK), Room k (A.deeper (envOfC x (defScope st) s.heap.objs.size f cdv)) → sp vs H Q E →
      ∃ t, PSs (cxOf CX0 P w K mg base N x (defScope st) f cdv A outer s H E).nox (defBody st) t ∧ t { nx := fun _ H' => Q .non H', rt := Q } (start N vs) H) : Cal P w K mg base (k + 1) x sp [] :=
  ⟨f, fd, ps, [], F.ok S len fun cdv A outer s H vs Q E hr h => (by
    obtain ⟨t, h1, h2⟩ := hbody cdv A outer s H vs Q E hr h
    exact ⟨t, h1.nox, h2⟩), hm, F.kp, b, .nil⟩
theorem metD {m qual : Str} {C : Addr} {st : Stmt} {f : Addr} {fd : FuncData} {N ps : List Str} {k : Nat} {sp : Sp} (c : Cls K C) (me : Meth K C m f) (F : FunD K m qual (defArgs st) (defBody st) (defScope st) [] [] f fd) (b : Binds K fd ps []) (S : FnScope N ps (defScope st)) (len : ∀ vs H Q E, sp vs H Q E → vs.length = ps.length)
    (hbody : ∀ (cdv : Value) (A : Around) (outer : List Env) (s : Shared) (H : Hp) (vs : List V) (Q : VK) (E : XK), Room k (A.deeper (envOfC qual (defScope st) s.heap.objs.size f cdv)) → sp vs H Q E →
      ∃ t, PSs (cxOf CX0 P w K mg base N qual (defScope st) f cdv A outer s H E).nox (defBody st) t ∧ t { nx := fun _ H' => Q .non H', rt := Q } (start N vs) H) : Met P w K mg base (k + 1) C m sp [] :=
  ⟨f, fd, ps, [], c, me, F.ok S len fun cdv A outer s H vs Q E hr h => (by
    obtain ⟨t, h1, h2⟩ := hbody cdv A outer s H vs Q E hr h
    exact ⟨t, h1.nox, h2⟩), b, .nil⟩
theorem makD {x qual : Str} {C : Addr} {st : Stmt} {f : Addr} {fd : FuncData} {N ps : List Str} {k : Nat} {sp : Sp} (M : Mk K C f) (hm : mg x = some (.ref C)) (F : FunD K "__init__" qual (defArgs st) (defBody st) (defScope st) [] [] f fd) (b : Binds K fd ps []) (S : FnScope N ps (defScope st)) (len : ∀ vs H Q E, sp vs H Q E → vs.length = ps.length)
    (hbody : ∀ (cdv : Value) (A : Around) (outer : List Env) (s : Shared) (H : Hp) (vs : List V) (Q : VK) (E : XK), Room k (A.deeper (envOfC qual (defScope st) s.heap.objs.size f cdv)) → sp vs H Q E →
      ∃ t, PSs (cxOf CX0 P w K mg base N qual (defScope st) f cdv A outer s H E).nox (defBody st) t ∧ t { nx := fun _ H' => Q .non H', rt := Q } (start N vs) H) : Mak P w K mg base (k + 1) x C sp [] :=
  ⟨f, fd, ps, [], M, F.ok S len fun cdv A outer s H vs Q E hr h => (by
    obtain ⟨t, h1, h2⟩ := hbody cdv A outer s H vs Q E hr h
    exact ⟨t, h1.nox, h2⟩), hm, b, .nil⟩
end
theorem u65 {k : Nat} {A : Around} (r : Room k A) : A.units + 65 < cLine := by have := r.un; omega

/-! ### heaps that grow; what never changes -/
/-- a tuple, an instance, a locked thing stands as it is, whatever lists and dicts do -/
def Imm : HO → Prop
  | .tup _ => True
  | .ins _ _ _ => True
  | .frz _ _ => True
  | _ => False
def ExT (H H' : Hp) : Prop := ∀ a o, H a = some o → Imm o → H' a = some o
theorem ExT.refl (H : Hp) : ExT H H := fun _ _ h _ => h
theorem ExT.trans {H H1 H2 : Hp} (a : ExT H H1) (b : ExT H1 H2) : ExT H H2 := fun x o h i => b x o (a x o h i) i
theorem tOf {H H' : Hp} (e : Ex H H') : ExT H H' := fun a o h _ => e a o h
theorem ExT.upd {H H' : Hp} {p : Addr} {o u : HO} (e : ExT H H') (h : H' p = some o) (n : ¬ Imm o) : ExT H (upd H' p u) := fun a z ha i => by
  have h1 := e a z ha i
  by_cases hp : a = p
  · subst hp
    rw [h] at h1
    cases h1
    exact absurd i n
  · rw [upd_ne hp]
    exact h1
theorem ExT.new {H H' : Hp} {p : Addr} {u : HO} (e : ExT H H') (h : H' p = none) : ExT H (L2.upd H' p u) := fun a z ha i => by
  rw [upd_ne (ne_of_none (e a z ha i) h)]
  exact e a z ha i
theorem rdT {H H' : Hp} {a : Addr} {xs : List V} (e : ExT H H') (h : Rd H a (.tup xs)) : Rd H' a (.tup xs) := by
  rcases h with h | ⟨o, h⟩
  · exact .inl (e a _ h trivial)
  · exact .inr ⟨o, e a _ h trivial⟩
theorem sqT {K : PySem.W.Frag} {H H' : Hp} {a : Addr} {xs : List V} (e : ExT H H') (h : SqT K H a xs) : SqT K H' a xs := by
  rcases h with h | h
  · exact .inl (rdT e h)
  · exact .inr h
mutual
/-- no list within -/
def noL : PyData → Bool
  | .tuple ds => noLs ds
  | .list _ => false
  | _ => true
def noLs : List PyData → Bool
  | [] => true
  | d :: ds => noL d && noLs ds
end
theorem noL_tup (ds : List PyData) : noL (.tuple ds) = noLs ds := by simp only [noL]
theorem noLs_nil : noLs [] = true := by simp only [noLs]
theorem noLs_cons (d : PyData) (ds : List PyData) : noLs (d :: ds) = (noL d && noLs ds) := by simp only [noLs]
section
variable {K : PySem.W.Frag} {H H' : Hp}
mutual
theorem dpT (e : ExT H H') : ∀ (d : PyData) (v : V), noL d = true → Dp K H v d → Dp K H' v d
  | .none, _, _, h => by cases h; exact .non
  | .bool b, _, _, h => by cases h; exact .bl b
  | .int i, _, _, h => by cases h; exact .int i
  | .str x, _, _, h => by cases h; exact .str x
  | .tuple ds, _, n, h => by
    rw [noL_tup] at n
    cases h with
    | tup h1 h2 => exact .tup (sqT e h1) (dpsT e ds _ n h2)
  | .list ds, _, n, _ => by simp [noL] at n
  | .dict _, _, _, h => by cases h
theorem dpsT (e : ExT H H') : ∀ (ds : List PyData) (vs : List V), noLs ds = true → DpAll K H vs ds → DpAll K H' vs ds
  | [], _, _, h => by cases h; exact .nil
  | d :: ds, _, n, h => by
    rw [noLs_cons] at n
    obtain ⟨n1, n2⟩ := He.ba n
    cases h with
    | cons h1 h2 => exact .cons (dpT e d _ n1 h1) (dpsT e ds _ n2 h2)
end
end
end Ci

/-! ### comprehensions with one test -/
namespace Ci
open PySem PySem.Spec PyProof.Rows L2
section
variable {X : Cx}
/-! the rules with the written part named K, so that a reading within a comprehension does not name its block -/
theorem pf (K : PySem.W.Frag) {e : Expr} {f : Str} {pos : Pos} {ta : TE} (he : PE X e ta) (hb : attributeBase e f X.env (eval e X.env) = eval e X.env := by rfl) (hK : X.K = K := by rfl) : PE X (.Attribute e f pos) (tFld K ta f) := by
  subst hK
  exact pe_fld he hb
theorem kIxT (K : PySem.W.Frag) (hK : X.K = K := by rfl) : IxR X (rIxT K) := by
  subst hK
  exact ix_tup
theorem kIxL (K : PySem.W.Frag) (hK : X.K = K := by rfl) : IxR X (rIxL K) := by
  subst hK
  exact ix_list
theorem kEqD (K : PySem.W.Frag) {k : Nat} (hr : Room k X.A) (hK : X.K = K := by rfl) : OpR X (compareOp .Eq) (rEqD K) := by
  subst hK
  exact op_eqD hr.units
theorem kNeD (K : PySem.W.Frag) {k : Nat} (hr : Room k X.A) (hK : X.K = K := by rfl) : OpR X (compareOp .NotEq) (rNeD K) := by
  subst hK
  exact op_neD hr.units
theorem kIn (K : PySem.W.Frag) (hK : X.K = K := by rfl) : OpR X (compareOp .In) (rIn K false) := by
  subst hK
  exact op_in_seq
theorem kNotIn (K : PySem.W.Frag) (hK : X.K = K := by rfl) : OpR X (compareOp .NotIn) (rIn K true) := by
  subst hK
  exact op_notIn_seq
theorem kInD (K : PySem.W.Frag) {k : Nat} (hr : Room k X.A) (hK : X.K = K := by rfl) : OpR X (compareOp .In) (rInD K) := by
  subst hK
  exact op_inD (u65 hr)
theorem kNotInD (K : PySem.W.Frag) {k : Nat} (hr : Room k X.A) (hK : X.K = K := by rfl) : OpR X (compareOp .NotIn) (rNotInD K) := by
  subst hK
  exact op_notInD (u65 hr)
theorem kInT (K : PySem.W.Frag) {k : Nat} (hr : Room k X.A) (hK : X.K = K := by rfl) : OpR X (compareOp .In) (CiR.rInT K) := by
  subst hK
  exact CiR.op_inT (u65 hr)
theorem kAll (K : PySem.W.Frag) (hc : X.calm = true := by rfl) (hK : X.K = K := by rfl) : CallR X (.builtin "all") (rAll K) := by
  subst hK
  exact cr_all hc
def rLn (K : PySem.W.Frag) : List V → Hp → VK → Prop := fun xs H Q => ∃ p ys, xs = [.ref p] ∧ (SqL K H p ys ∨ SqT K H p ys) ∧ Q (.int ys.length) H
theorem kLen (K : PySem.W.Frag) (hK : X.K = K := by rfl) : CallR X (.builtin "len") (rLn K) := by
  subst hK
  exact call_len_seq
def rLo (K : PySem.W.Frag) : List V → Hp → VK → Prop := fun xs H Q => ∃ p ys, xs = [.ref p] ∧ (SqL K H p ys ∨ SqT K H p ys) ∧ ∀ l, H l = none → Q (.ref l) (upd H l (.lst ys))
theorem kListOf (K : PySem.W.Frag) (hK : X.K = K := by rfl) : CallR X (.type "list") (rLo K) := by
  subst hK
  exact call_list_of
def rTo (K : PySem.W.Frag) : List V → Hp → VK → Prop := fun xs H Q => ∃ p ys, xs = [.ref p] ∧ ((SqL K H p ys ∧ ∀ l, H l = none → Q (.ref l) (upd H l (.tup ys))) ∨ (SqT K H p ys ∧ Q (.ref p) H))
theorem kTupOf (K : PySem.W.Frag) (hK : X.K = K := by rfl) : CallR X (.type "tuple") (rTo K) := by
  subst hK
  exact call_tuple_of
theorem kIsi (K : PySem.W.Frag) (hK : X.K = K := by rfl) : CallR X (.builtin "isinstance") (rIsi K) := by
  subst hK
  exact call_isi
theorem kMin (K : PySem.W.Frag) (hc : X.calm = true := by rfl) (hK : X.K = K := by rfl) : CallR X (.builtin "min") (rMin K) := by
  subst hK
  exact cr_min hc
theorem kStar (K : PySem.W.Frag) {e : Expr} {es : List Expr} {p : Pos} {te : TE} {t : TA} (he : PE X e te) (hr : PA X es t) (hs : starEach (.Starred e p :: es) X.env = (true, eval e X.env) :: starEach es X.env := by rfl) (hK : X.K = K := by rfl) : PA X (.Starred e p :: es) (StX.tStar K te t) := by
  subst hK
  exact StX.pa_star he hr hs
theorem kTup (K : PySem.W.Frag) {es : List Expr} {k : Nat} {pos : Pos} {t : TGs} {n : Nat} (h : PGs X es t) (hc : X.calm = true := by rfl) (hn : (assignEach es X.env).length = n := by rfl) (hst : (assignEach es X.env).findIdx? (·.1) = none := by rfl) (hK : X.K = K := by rfl) : PG X (.Tuple es k pos) (gTup K n t) := by
  subst hK
  exact pg_tup hc h hn hst
theorem kSlT (K : PySem.W.Frag) (hK : X.K = K := by rfl) : SlR X (rSlA K) := by
  subst hK
  exact sl_tupA
theorem kSlL (K : PySem.W.Frag) (hK : X.K = K := by rfl) : SlR X (rSlL K) := by
  subst hK
  exact sl_list
theorem kCatT (K : PySem.W.Frag) (hK : X.K = K := by rfl) : OpR X (binaryOp .Add) (rCatA K) := by
  subst hK
  exact op_catA
theorem pec {a b : Expr} {op : CmpOp} {r : R2} {ta tb : TE} {pos : Pos} (ho : OpR X (compareOp op) r) (ha : PE X a ta) (hb : PE X b tb) (hm : behindInMarks op b = false := by first | rfl | exact nomark _) : PE X (.Compare a [op] [b] pos) (tOp r ta tb) := pe_cmpR ho ha hb hm
theorem ptc {a b : Expr} {op : CmpOp} {r : R2} {ta tb : TE} {pos : Pos} (ho : OpR X (compareOp op) r) (ha : PE X a ta) (hb : PE X b tb) (hm : behindInMarks op b = false := by first | rfl | exact nomark _) : PT X (.Compare a [op] [b] pos) (tTest (tOp r ta tb)) := pt_cmpR ho ha hb hm
theorem pix {a b : Expr} {r : R2} {ta tb : TE} {pos : Pos} (hr : IxR X r) (ha : PE X a ta) (hb : PE X b tb) (hs : PlainIx b := by intro _ _; rfl) : PE X (.Subscript a b pos) (tOp r ta tb) := pe_ix hr ha hb hs
theorem pe_lcT {elt tg iter c : Expr} {scope : Scope} {own : List (Str × Nat)} {pos : Pos} {wi : TI} {g : TG} {tt : TT} {te : TE} (hc : X.calm = true) (hN : X.N.Nodup) (hi : PI X tg iter wi) (ok : BlkOk X.N X.env.scope scope own)
    (hg : ∀ (s : Shared) (H : Hp) (C : Addr) (cl : List (Str × Addr)) (fp : List Addr), PG (X.blk s H scope (compEnvC scope cl C X.env) fp) tg g) (ht : ∀ (s : Shared) (H : Hp) (C : Addr) (cl : List (Str × Addr)) (fp : List Addr), PT (X.blk s H scope (compEnvC scope cl C X.env) fp) c tt)
    (he : ∀ (s : Shared) (H : Hp) (C : Addr) (cl : List (Str × Addr)) (fp : List Addr), PE (X.blk s H scope (compEnvC scope cl C X.env) fp) elt te) (hs : ∀ x, foldedSetIterable iter X.env x = pure x := by intro _; rfl) :
    PE X (.ListComp elt [⟨tg, iter, [c], 0⟩] scope pos) (tLc wi g tt te (own.map (·.2))) :=
  pe_lc hc hN hi ok hg (fun s H C cl fp => pts_one (ht s H C cl fp)) he hs
theorem ps_setLcT {i : Nat} {y : Str} {py : Pos} {elt tg iter c : Expr} {scope : Scope} {own : List (Str × Nat)} {pos spos : Pos} {wi : TI} {g : TG} {tt : TT} {te : TE} (hc : X.calm = true) (hN : X.N.Nodup) (hy : X.N[i]? = some y) (hyl : X.env.scope.names.lookup y = some .local)
    (hsw : swapsWith (.ListComp elt [⟨tg, iter, [c], 0⟩] scope pos) (some (.Name y py)) spos.line X.env = pure true) (hi : PI X tg iter wi) (ok : BlkOk X.N X.env.scope scope own)
    (hg : ∀ (s : Shared) (H : Hp) (C : Addr) (cl : List (Str × Addr)) (fp : List Addr), PG (X.blk s H scope (compEnvC scope cl C X.env) fp) tg g) (ht : ∀ (s : Shared) (H : Hp) (C : Addr) (cl : List (Str × Addr)) (fp : List Addr), PT (X.blk s H scope (compEnvC scope cl C X.env) fp) c tt)
    (he : ∀ (s : Shared) (H : Hp) (C : Addr) (cl : List (Str × Addr)) (fp : List Addr), PE (X.blk s H scope (compEnvC scope cl C X.env) fp) elt te) (hs : ∀ x, foldedSetIterable iter X.env x = pure x := by intro _; rfl) :
    PS X (.Assign [.Name y py] (.ListComp elt [⟨tg, iter, [c], 0⟩] scope pos) spos) (tAsg (tLc wi g tt te (own.map (·.2))) (gName i)) :=
  ps_setLc hc hN hy hyl hsw hi ok hg (fun s H C cl fp => pts_one (ht s H C cl fp)) he hs
end
end Ci

set_option Elab.async false
set_option linter.all false
set_option maxRecDepth 100000
set_option maxHeartbeats 4000000
/-! A state in the heap; the methods of State. -/
namespace Ci
open PySem PySem.Spec PyProof.Rows L2 Evl
open C8 (Cal Met Mak pe_c pe_mk pe_mt pe_mt0 pe_gc)

/-! ### values -/
def vo : Val → V
  | none => .non
  | some i => .int i
def wl : Option Val → List V
  | none => []
  | some v => [vo v]
theorem vo_inj {a b : Val} (h : vo a = vo b) : a = b := by
  cases a <;> cases b <;> cases h <;> rfl
theorem vo_eq (a b : Val) : decide (vo a = vo b) = decide (a = b) := by
  by_cases h : a = b
  · rw [h, decide_eq_true rfl, decide_eq_true rfl]
  · rw [decide_eq_false h, decide_eq_false fun e => h (vo_inj e)]
theorem vo_non (a : Val) : decide (vo a = .non) = a.isNone := by
  cases a <;> rfl
theorem vo_scal (a b : Val) : scal (vo a) (vo b) = true := by
  cases a <;> cases b <;> rfl
theorem vo_flat (a : Val) : flatV (vo a) = true := by
  cases a <;> rfl
def sp3S : Sp3 → Str
  | .own => "own"
  | .above => "above"
  | .base => "base"
def ansS : Bool → Str
  | true => "yes"
  | false => "no"
def wayS : Way → Str
  | .every => "every"
  | .changed => "changed"
def fltS : Flt → Str
  | .lost => "lost"
  | .missed => "missed"
def actS : Act → Str
  | .take => "take"
  | .keep => "keep"
  | .drop => "drop"
  | .claim => "claim"
def wordS : Word → Str
  | .change => "change"
  | .delete => "delete"
  | .set => "set"
  | .remove => "remove"
  | .back => "back"
def ntsS : Nts → List Str
  | ⟨false, false⟩ => []
  | ⟨true, false⟩ => ["base"]
  | ⟨false, true⟩ => ["mine"]
  | ⟨true, true⟩ => ["base", "mine"]
def testS : Test → List Str
  | .same p q => ["same", sp3S p, sp3S q]
  | .unlike p q => ["unlike", sp3S p, sp3S q]
  | .there p => ["there", sp3S p]
  | .gone p => ["gone", sp3S p]
  | .mine => ["mine"]
  | .free => ["free"]
  | .yes => ["yes"]
  | .no => ["no"]
def strsD (l : List Str) : PyData := .tuple (l.map PyData.str)
def testD (t : Test) : PyData := strsD (testS t)
def rowD (r : Row) : PyData := .tuple [.tuple (r.tests.map testD), .str (actS r.act)]
def rowsD (l : List Row) : PyData := .tuple (l.map rowD)
def valD (v : Val) : PyData := match v with
  | none => .none
  | some i => .int i

/-! ### data taken apart -/
section
variable {K : PySem.W.Frag} {H H' : Hp}
theorem dps_str : ∀ {ss : List Str} {xs : List V}, DpAll K H xs (ss.map PyData.str) → xs = ss.map V.str
  | [], _, h => by
    cases h
    rfl
  | s :: ss, _, h => by
    cases h with
    | cons h1 h2 =>
      cases h1
      rw [dps_str h2]
      rfl
theorem dp_strs {v : V} {ss : List Str} (h : Dp K H v (strsD ss)) : ∃ a, v = .ref a ∧ SqT K H a (ss.map V.str) := by
  cases h with
  | tup h1 h2 => exact ⟨_, rfl, by rw [← dps_str h2]; exact h1⟩
theorem dp_tup {v : V} {ds : List PyData} (h : Dp K H v (.tuple ds)) : ∃ a xs, v = .ref a ∧ SqT K H a xs ∧ DpAll K H xs ds := by
  cases h with
  | tup h1 h2 => exact ⟨_, _, rfl, h1, h2⟩
theorem dp_lst {v : V} {ds : List PyData} (h : Dp K H v (.list ds)) : ∃ a xs, v = .ref a ∧ SqL K H a xs ∧ DpAll K H xs ds := by
  cases h with
  | lst h1 h2 => exact ⟨_, _, rfl, h1, h2⟩
theorem dps_len : ∀ {ds : List PyData} {xs : List V}, DpAll K H xs ds → xs.length = ds.length
  | [], _, h => by
    cases h
    rfl
  | d :: ds, _, h => by
    cases h with
    | cons h1 h2 => exact congrArg Nat.succ (dps_len h2)
theorem dps_get : ∀ {ds : List PyData} {xs : List V} {i : Nat} {x : V}, DpAll K H xs ds → xs[i]? = some x → ∃ d, ds[i]? = some d ∧ Dp K H x d
  | [], _, i, x, h, e => by
    cases h
    cases e
  | d :: ds, _, i, x, h, e => by
    cases h with
    | cons h1 h2 =>
      cases i with
      | zero =>
        cases e
        exact ⟨d, rfl, h1⟩
      | succ i => exact dps_get (i := i) h2 e
theorem dps_at : ∀ {ds : List PyData} {xs : List V} {i : Nat} {d : PyData}, DpAll K H xs ds → ds[i]? = some d → ∃ x, xs[i]? = some x ∧ Dp K H x d
  | [], _, i, d, h, e => by
    cases h
    cases e
  | d' :: ds, _, i, d, h, e => by
    cases h with
    | cons h1 h2 =>
      cases i with
      | zero =>
        cases e
        exact ⟨_, rfl, h1⟩
      | succ i => exact dps_at (i := i) h2 e
theorem noLs_str (ss : List Str) : noLs (ss.map PyData.str) = true := by
  induction ss with
  | nil => simp only [List.map_nil, noLs]
  | cons s ss ih => simp only [List.map_cons, noLs, noL, ih, Bool.and_self]
theorem noL_strs (ss : List Str) : noL (strsD ss) = true := by
  unfold strsD
  rw [noL_tup]
  exact noLs_str ss
theorem noLs_map {α : Type} (f : α → PyData) (h : ∀ a, noL (f a) = true) (l : List α) : noLs (l.map f) = true := by
  induction l with
  | nil => simp only [List.map_nil, noLs]
  | cons a l ih => simp only [List.map_cons, noLs, h a, ih, Bool.and_self]
theorem noL_row (r : Row) : noL (rowD r) = true := by
  unfold rowD
  rw [noL_tup, noLs_cons, noLs_cons, noLs_nil, noL_tup, noLs_map testD (fun t => noL_strs _)]
  simp only [noL, Bool.and_self]
theorem noL_rows (l : List Row) : noL (rowsD l) = true := by
  unfold rowsD
  rw [noL_tup]
  exact noLs_map rowD noL_row l
end

/-! ### a state, a rule -/
def stF (s : St) (w : Addr) : List (Str × V) := [("upper", vo s.up), ("here", vo s.here), ("before", vo s.before), ("wish", .ref w), ("is_mine", .bl s.mine)]
structure StAt (K : PySem.W.Frag) (H : Hp) (p : Addr) (s : St) : Prop where
  ex : ∃ dx w, H p = some (.ins (aState K) dx (stF s w)) ∧ SqT K H w (wl s.wish)
def rlF (n t : V) : List (Str × V) := [("looks", n), ("table", t)]
structure RlAt (K : PySem.W.Frag) (H : Hp) (p : Addr) (notes : List Str) (rows : List Row) : Prop where
  ex : ∃ dx n t, H p = some (.ins (aRule K) dx (rlF n t)) ∧ Dp K H n (strsD notes) ∧ Dp K H t (rowsD rows)
  many : rows.length ≤ 8 ∧ ∀ r ∈ rows, r.tests.length ≤ 4
  ok : ∃ n : Nts, notes = ntsS n ∧ ∀ r ∈ rows, r.okIn n = true
section
variable {K : PySem.W.Frag} {H H' : Hp} {p : Addr} {s : St} {notes : List Str} {rows : List Row}
theorem StAt.t (S : StAt K H p s) (e : ExT H H') : StAt K H' p s := by
  obtain ⟨dx, w, h1, h2⟩ := S.ex
  exact ⟨dx, w, e _ _ h1 trivial, sqT e h2⟩
theorem StAt.x (S : StAt K H p s) (e : Ex H H') : StAt K H' p s := S.t (tOf e)
theorem RlAt.t (S : RlAt K H p notes rows) (e : ExT H H') : RlAt K H' p notes rows := by
  obtain ⟨dx, n, t, h1, h2, h3⟩ := S.ex
  exact ⟨⟨dx, n, t, e _ _ h1 trivial, dpT e _ _ (noL_strs _) h2, dpT e _ _ (noL_rows _) h3⟩, S.many, S.ok⟩
theorem RlAt.x (S : RlAt K H p notes rows) (e : Ex H H') : RlAt K H' p notes rows := S.t (tOf e)
end

/-! ### what gives what -/
abbrev Pr := V → Hp → Prop
def EvP (te : TE) (σ : L2.St) (H : Hp) (R : Pr) : Prop := ∀ H1, Ex H H1 → ∀ Q : VK, (∀ v H2, Ex H1 H2 → R v H2 → Q v H2) → te σ H1 Q
def RetP (R : Pr) (H : Hp) (Q : VK) : Prop := ∀ v H2, Ex H H2 → R v H2 → Q v H2
def SpP (sp : Sp) (vs : List V) (H : Hp) (R : Pr) : Prop := ∀ H1, Ex H H1 → ∀ Q : VK, RetP R H1 Q → ∀ E : XK, sp vs H1 Q E
section
variable {K : PySem.W.Frag} {σ : L2.St} {H H' : Hp} {ta tb te : TE} {t : TT} {tt : TA} {x y z v : V} {r : R2} {p C dx : Addr} {fs : List (Str × V)} {f m : Str} {sp : Sp} {vs dvs : List V} {E : XK} {R : Pr} {D : Ends}
theorem RetP.go {Q : VK} (k : RetP R H Q) (e : Ex H H') : RetP R H' Q := fun v H2 e2 h => k v H2 (e.trans e2) h
theorem ev_fld (ha : Ev ta σ H (.ref p)) (hp : H p = some (.ins C dx fs)) (c : Cls K C) (n : NoAttr K C f) (l : fs.lookup f = some v) : Ev (tFld K ta f) σ H v := fun H1 e Q q =>
  ha H1 e _ fun H2 e2 => ⟨p, C, dx, fs, v, rfl, e2 _ _ (e _ _ hp), c, n, l, q H2 e2⟩
theorem ev_meth (ha : Ev ta σ H (.ref p)) (hp : H p = some (.ins C dx fs)) (n : fs.lookup m = none) (ht : EvA tt σ H vs) (hs : SpV sp (.ref p :: (vs ++ dvs)) H z) : Ev (tMeth C m sp dvs E ta tt) σ H z := fun H1 e Q q =>
  ha H1 e _ fun H2 e2 => ⟨p, dx, fs, rfl, e2 _ _ (e _ _ hp), n, ht H2 (e.trans e2) _ fun H3 e3 => hs H3 ((e.trans e2).trans e3) Q (fun H4 e4 => q H4 ((e2.trans e3).trans e4)) E⟩
theorem ep_meth (ha : Ev ta σ H (.ref p)) (hp : H p = some (.ins C dx fs)) (n : fs.lookup m = none) (ht : EvA tt σ H vs) (hs : SpP sp (.ref p :: (vs ++ dvs)) H R) : EvP (tMeth C m sp dvs E ta tt) σ H R := fun H1 e Q q =>
  ha H1 e _ fun H2 e2 => ⟨p, dx, fs, rfl, e2 _ _ (e _ _ hp), n, ht H2 (e.trans e2) _ fun H3 e3 => hs H3 ((e.trans e2).trans e3) Q (fun v H4 e4 => q v H4 ((e2.trans e3).trans e4)) E⟩
theorem ep_call (h : EvA tt σ H vs) (hs : SpP sp (vs ++ dvs) H R) : EvP (tCall sp dvs E tt) σ H R := fun H1 e Q q =>
  h H1 e _ fun H2 e2 => hs H2 (e.trans e2) Q (fun v H3 e3 => q v H3 (e2.trans e3)) E
theorem ep_of (h : Ev te σ H v) (hr : ∀ H1, Ex H H1 → R v H1) : EvP te σ H R := fun H1 e Q q => h H1 e _ fun H2 e2 => q v H2 e2 (hr H2 (e.trans e2))
theorem ep_imp {R' : Pr} (h : EvP te σ H R) (hr : ∀ v H1, Ex H H1 → R v H1 → R' v H1) : EvP te σ H R' := fun H1 e Q q => h H1 e _ fun v H2 e2 h2 => q v H2 e2 (hr v H2 (e.trans e2) h2)
theorem ep_mono (e0 : Ex H H') (h : EvP te σ H R) : EvP te σ H' R := fun H1 e Q q => h H1 (e0.trans e) Q q
theorem sp_ret (h : EvP te σ H R) (k : RetP R H D.rt) : tRet te D σ H := h H (Ex.refl H) _ fun v H1 e hr => k v H1 e hr
theorem sp_asg {i : Nat} (h : EvP te σ H R) (k : ∀ v H1, Ex H H1 → R v H1 → D.nx (σ.set i (some v)) H1) : tAsg te (gName i) D σ H := h H (Ex.refl H) _ k
theorem qp_asg {tz : TS} {i : Nat} (h : EvP te σ H R) (k : ∀ v H1, Ex H H1 → R v H1 → tz D (σ.set i (some v)) H1) : tSeq (tAsg te (gName i)) tz D σ H := h H (Ex.refl H) _ k
theorem ep_if {b : Bool} (h : EvT t σ H b) (h1 : b = true → EvP ta σ H R) (h2 : b = false → EvP tb σ H R) : EvP (tIf t ta tb) σ H R := fun H1 e Q q => h H1 e _ fun H2 e2 => by
  cases b with
  | true =>
    show ta σ H2 Q
    exact h1 rfl H2 (e.trans e2) Q fun v H3 e3 => q v H3 (e2.trans e3)
  | false =>
    show tb σ H2 Q
    exact h2 rfl H2 (e.trans e2) Q fun v H3 e3 => q v H3 (e2.trans e3)
theorem et_eqs {a b : Str} (ha : Ev ta σ H (.str a)) (hb : Ev tb σ H (.str b)) {c : Bool} (hc : decide (a = b) = c) : EvT (tTest (tOp rEq ta tb)) σ H c := by
  subst hc
  refine et_test (ev_is (ev_op ha hb (rv_eq rfl)) (congrArg V.bl ?_))
  rw [dec_str, ← Bool.beq_eq_decide_eq]
theorem ev_eqs {a b : Str} (ha : Ev ta σ H (.str a)) (hb : Ev tb σ H (.str b)) {c : Bool} (hc : decide (a = b) = c) : Ev (tOp rEq ta tb) σ H (.bl c) := by
  subst hc
  refine ev_is (ev_op ha hb (rv_eq (show scal (.str a) (.str b) = true from rfl))) (congrArg V.bl ?_)
  rw [dec_str, ← Bool.beq_eq_decide_eq]
theorem ev_eqb {a b : Bool} (ha : Ev ta σ H (.bl a)) (hb : Ev tb σ H (.bl b)) : Ev (tOp rEq ta tb) σ H (.bl (a == b)) := by
  refine ev_is (ev_op ha hb (rv_eq (show scal (.bl a) (.bl b) = true from rfl))) (congrArg V.bl ?_)
  rw [dec_bl]
theorem ev_eqv {a b : Val} (ha : Ev ta σ H (vo a)) (hb : Ev tb σ H (vo b)) : Ev (tOp rEq ta tb) σ H (.bl (decide (a = b))) := by
  refine ev_is (ev_op ha hb (rv_eq (vo_scal a b))) (congrArg V.bl (vo_eq a b))
theorem ev_nev {a b : Val} (ha : Ev ta σ H (vo a)) (hb : Ev tb σ H (vo b)) : Ev (tOp rNe ta tb) σ H (.bl (!decide (a = b))) := by
  refine ev_is (ev_op ha hb (rv_ne (vo_scal a b))) (congrArg V.bl ?_)
  rw [vo_eq a b]
theorem rv_isN {x : V} : RV (fun x y H Q => y = .non ∧ Q (.bl (decide (x = .non))) H) x .non H (.bl (decide (x = .non))) := fun H1 _ _ q => ⟨rfl, q H1 (Ex.refl H1)⟩
theorem rv_notN {x : V} : RV (fun x y H Q => y = .non ∧ Q (.bl (!decide (x = .non))) H) x .non H (.bl (!decide (x = .non))) := fun H1 _ _ q => ⟨rfl, q H1 (Ex.refl H1)⟩
theorem ev_isN {a : Val} (ha : Ev ta σ H (vo a)) : Ev (tOp (fun x y H Q => y = .non ∧ Q (.bl (decide (x = .non))) H) ta (tC .non)) σ H (.bl a.isNone) := by
  refine ev_is (ev_op ha ev_c rv_isN) (congrArg V.bl (vo_non a))
end

/-! ### the fields of a state -/
section
variable {K : PySem.W.Frag} {mg : Str → Option Value} {σ : L2.St} {H : Hp} {ta : TE} {p : Addr} {s : St} {w dx : Addr}
theorem stF_up : (stF s w).lookup ("upper" : Str) = some (vo s.up) := rfl
theorem stF_here : (stF s w).lookup ("here" : Str) = some (vo s.here) := rfl
theorem stF_before : (stF s w).lookup ("before" : Str) = some (vo s.before) := rfl
theorem stF_wish : (stF s w).lookup ("wish" : Str) = some (.ref w) := rfl
theorem stF_mine : (stF s w).lookup ("is_mine" : Str) = some (.bl s.mine) := rfl
theorem ev_up (T : Txt K mg) (S : StAt K H p s) (ha : Ev ta σ H (.ref p)) : Ev (tFld K ta "upper") σ H (vo s.up) := by
  obtain ⟨dx, w, h1, h2⟩ := S.ex
  exact ev_fld ha h1 T.cl_State T.na_State_upper stF_up
theorem ev_here (T : Txt K mg) (S : StAt K H p s) (ha : Ev ta σ H (.ref p)) : Ev (tFld K ta "here") σ H (vo s.here) := by
  obtain ⟨dx, w, h1, h2⟩ := S.ex
  exact ev_fld ha h1 T.cl_State T.na_State_here stF_here
theorem ev_before (T : Txt K mg) (S : StAt K H p s) (ha : Ev ta σ H (.ref p)) : Ev (tFld K ta "before") σ H (vo s.before) := by
  obtain ⟨dx, w, h1, h2⟩ := S.ex
  exact ev_fld ha h1 T.cl_State T.na_State_before stF_before
theorem ev_wish (T : Txt K mg) (h1 : H p = some (.ins (aState K) dx (stF s w))) (ha : Ev ta σ H (.ref p)) : Ev (tFld K ta "wish") σ H (.ref w) := ev_fld ha h1 T.cl_State T.na_State_wish stF_wish
theorem ev_mine (T : Txt K mg) (S : StAt K H p s) (ha : Ev ta σ H (.ref p)) : Ev (tFld K ta "is_mine") σ H (.bl s.mine) := by
  obtain ⟨dx, w, h1, h2⟩ := S.ex
  exact ev_fld ha h1 T.cl_State T.na_State_is_mine stF_mine
end

/-! ### the methods -/
section
variable {P : Program} {w : World} {K : PySem.W.Frag} {mg : Str → Option Value} {base : Heap}
def spValue (K : PySem.W.Frag) : Sp := fun vs H Q _ => ∃ p s q, vs = [.ref p, .str (sp3S q)] ∧ StAt K H p s ∧ RetV (vo (s.val q)) H Q
theorem met_State_value (T : Txt K mg) : Met P w K mg base 1 (aState K) "value" (spValue K) [] := by
  obtain ⟨fd, F⟩ := T.f_State_value
  refine metD T.cl_State T.m_State_value F (F.bindsN fun _ _ _ _ _ _ us hl => match us, hl with | [_, _], _ => rfl) sc_State_value (fun vs H Q E h => ?_) (fun cdv A outer s H vs Q E hr h => ?_)
  · obtain ⟨p, s, q, rfl, _⟩ := h
    rfl
  · obtain ⟨p, s, q, rfl, S, k⟩ := h
    refine ⟨_, (pss_cons (ps_if (pt_cmpR op_eq (pv 1) pe_str (nomark _))
        (pss_one (ps_ret (pe_fld (pv 0) rfl)))
        pss_nil)
      (pss_one (ps_ret (pe_ifExp (pt_cmpR op_eq (pv 1) pe_str (nomark _)) (pe_fld (pv 0) rfl) (pe_fld (pv 0) rfl))))), ?_⟩
    cases q with
    | own => exact q_when (et_eqs (ev_var rfl) ev_c (c := true) (by decide +kernel)) (fun _ H1 e => s_ret (ev_here T (S.x e) (ev_var rfl)) fun H2 e2 => k H2 (e.trans e2)) (fun h => by cases h)
    | above => exact q_when (et_eqs (ev_var rfl) ev_c (c := false) (by decide +kernel)) (fun h => by cases h) (fun _ H1 e =>
        s_ret (ev_if (et_eqs (ev_var rfl) ev_c (c := true) (by decide +kernel)) (fun _ => ev_up T (S.x e) (ev_var rfl)) (fun h => by cases h)) fun H2 e2 => k H2 (e.trans e2))
    | base => exact q_when (et_eqs (ev_var rfl) ev_c (c := false) (by decide +kernel)) (fun h => by cases h) (fun _ H1 e =>
        s_ret (ev_if (et_eqs (ev_var rfl) ev_c (c := false) (by decide +kernel)) (fun h => by cases h) (fun _ => ev_before T (S.x e) (ev_var rfl))) fun H2 e2 => k H2 (e.trans e2))
end
end Ci

set_option Elab.async false
set_option linter.all false
set_option maxRecDepth 100000
set_option maxHeartbeats 4000000
/-! Comprehensions and arguments that give something: general forms. -/
namespace Ci
open PySem PySem.Spec PyProof.Rows L2 Evl
open C8 (Cal Met Mak pe_c pe_mk pe_mt pe_mt0 pe_gc)

/-! ### what is walked: as, each item told by Ri -/
def ItP {α : Type} (wi : TI) (σ : L2.St) (H : Hp) (as : List α) (Ri : α → Pr) : Prop :=
  ∀ H1, Ex H H1 → ∀ Rk : It → Hp → Prop, (∀ (J : It) (H2 : Hp) (G : Hp → Prop) (Y : Nat → Hp → V → Hp → Prop), Ex H1 H2 → (∀ H3, Ex H2 H3 → G H3) → Walk J as.length G Y →
    (∀ i Ha x Hb, Ex H2 Ha → Y i Ha x Hb → i < as.length → ∃ a, as[i]? = some a ∧ Ex Ha Hb ∧ Ri a x Hb) → Rk J H2) → wi σ H1 Rk
def LsP {β : Type} (R : β → Pr) (bs : List β) : Pr := fun v H => ∃ p ys, v = .ref p ∧ H p = some (.lst ys) ∧ Paired (fun y b => R b y H) ys bs
def StbT (R : Pr) : Prop := ∀ v H1 H2, ExT H1 H2 → R v H1 → R v H2
theorem paired_snoc {α β : Type} {F : α → β → Prop} {a : α} {b : β} (h : F a b) : ∀ {l₁ : List α} {l₂ : List β}, Paired F l₁ l₂ → Paired F (l₁ ++ [a]) (l₂ ++ [b])
  | _, _, .nil => .cons h .nil
  | _, _, .cons r t => .cons r (paired_snoc h t)
theorem paired_T {β : Type} {R : β → Pr} (st : ∀ b, StbT (R b)) {H H' : Hp} (e : ExT H H') {ys : List V} {bs : List β} (h : Paired (fun y b => R b y H) ys bs) : Paired (fun y b => R b y H') ys bs :=
  Paired.mapP h fun y b r => st b y H H' e r
theorem take_filter_yes {α β : Type} {as : List α} {f : α → Bool} {g : α → β} {i : Nat} {a : α} (h : as[i]? = some a) (hf : f a = true) : ((as.take (i + 1)).filter f).map g = ((as.take i).filter f).map g ++ [g a] := by
  rw [List.take_add_one, h, List.filter_append, List.map_append]
  show _ ++ (([a].filter f).map g) = _
  rw [List.filter_cons, if_pos hf]
  rfl
theorem take_filter_no {α β : Type} {as : List α} {f : α → Bool} {g : α → β} {i : Nat} {a : α} (h : as[i]? = some a) (hf : f a = false) : ((as.take (i + 1)).filter f).map g = ((as.take i).filter f).map g := by
  rw [List.take_add_one, h, List.filter_append, List.map_append]
  show _ ++ (([a].filter f).map g) = _
  rw [List.filter_cons, if_neg (by rw [hf]; decide)]
  show _ ++ [] = _
  rw [List.append_nil]
section
variable {α β : Type} {wi : TI} {g : TG} {t : TT} {te : TE} {vs : List Nat} {σ : L2.St} {H : Hp} {R : β → Pr}
theorem ep_comp (as : List α) (f : α → Bool) (gb : α → β) (Ri : α → Pr) (S : α → L2.St → Hp → Prop) (hi : ItP wi σ H as Ri)
    (hg : ∀ a x H1, a ∈ as → Ex H H1 → Ri a x H1 → ∀ Kt : L2.St → Hp → Prop, (∀ σ2, wipe σ2 vs = wipe σ vs → S a σ2 H1 → Kt σ2 H1) → g x (wipe σ vs) H1 Kt)
    (ht : ∀ a σ2 H1, a ∈ as → Ex H H1 → S a σ2 H1 → EvT t σ2 H1 (f a)) (he : ∀ a σ2 H1, a ∈ as → Ex H H1 → S a σ2 H1 → f a = true → EvP te σ2 H1 (R (gb a)))
    (stb : ∀ b, StbT (R b)) (hz : as.length ≤ 100000) : EvP (tLc wi g t te vs) σ H (LsP R ((as.filter f).map gb)) := fun H1 e1 Q q => by
  refine hi H1 e1 _ fun J H2 G Y e2 hG w hY => ?_
  intro D hD
  refine lc_it w (fun i H' => H2 D = none ∧ Ex H2 H' ∧ ∃ ys, H' D = some (.lst ys) ∧ Paired (fun y b => R b y H') ys (((as.take i).filter f).map gb)) ⟨hD, Ex.new hD, [], upd_same, by rw [List.take_zero]; exact .nil⟩ (fun i H' _ p => hG H' p.2.1) ?_ ?_
  · rintro i x Ha Hb hlt ⟨pD, pe, ys, hys, hp⟩ y
    obtain ⟨a, ha, eab, ri⟩ := hY i Ha x Hb pe y hlt
    have hm : a ∈ as := List.mem_of_getElem? ha
    have eb : Ex H Hb := (e1.trans e2).trans (pe.trans eab)
    refine hg a x Hb hm eb ri _ fun σ2 hw2 s2 => ⟨hw2, ?_⟩
    refine ht a σ2 Hb hm eb s2 Hb (Ex.refl _) _ fun H3 e3 => ?_
    cases hf : f a with
    | false =>
      rw [if_neg Bool.false_ne_true]
      refine ⟨pD, (pe.trans eab).trans e3, ys, e3 _ _ (eab _ _ hys), ?_⟩
      rw [take_filter_no ha hf]
      exact paired_T stb (tOf (eab.trans e3)) hp
    | true =>
      rw [if_pos rfl]
      refine he a σ2 Hb hm eb s2 hf H3 e3 _ fun v H4 e4 r4 => ?_
      have hys4 : H4 D = some (.lst ys) := e4 _ _ (e3 _ _ (eab _ _ hys))
      have hl : ys.length = (((as.take i).filter f).map gb).length := Paired.length hp
      have hll : (((as.take i).filter f).map gb).length ≤ i := by
        rw [List.length_map]
        refine Nat.le_trans (List.length_filter_le _ _) ?_
        rw [List.length_take]
        exact Nat.min_le_left _ _
      have eT : ExT H4 (L2.upd H4 D (.lst (ys ++ [v]))) := ExT.upd (ExT.refl _) hys4 (fun z => z)
      refine ⟨ys, hys4, sz_lt (by omega), pD, Ex.mut (((pe.trans eab).trans e3).trans e4) pD, ys ++ [v], upd_same, ?_⟩
      rw [take_filter_yes ha hf]
      exact paired_snoc (F := fun y b => R b y (L2.upd H4 D (.lst (ys ++ [v])))) (stb _ _ _ _ eT r4) (paired_T stb ((tOf ((eab.trans e3).trans e4)).trans eT) hp)
  · rintro H' ⟨pD, pe, ys, hys, hp⟩
    refine q (.ref D) H' (e2.trans pe) ⟨D, ys, rfl, hys, ?_⟩
    rw [List.take_of_length_le (Nat.le_refl _)] at hp
    exact hp
end

/-! ### what is walked: instances -/
section
variable {K : PySem.W.Frag} {σ : L2.St} {H : Hp} {tl : TE} {α : Type} {a : Addr} {xs : List V} {as : List α} {Ri : α → Pr}
theorem paired_get {γ δ : Type} {F : γ → δ → Prop} : ∀ {l₁ : List γ} {l₂ : List δ} {i : Nat} {x : γ}, Paired F l₁ l₂ → l₁[i]? = some x → ∃ y, l₂[i]? = some y ∧ F x y
  | _, _, _, _, .nil, e => by cases e
  | _, _, 0, _, .cons r _, e => by
    cases e
    exact ⟨_, rfl, r⟩
  | _, _, i + 1, _, .cons _ t, e => paired_get (i := i) t e
theorem it_tup (h : Ev tl σ H (.ref a)) (hx : SqT K H a xs) (hp : Paired (fun x b => ∀ H1, Ex H H1 → Ri b x H1) xs as) : ItP (iTup K tl) σ H as Ri := fun H1 e1 Rk k =>
  h H1 e1 _ fun H2 e2 => ⟨a, rfl, ⟨xs, ex_t (e1.trans e2) hx⟩, k (Itt K a) H2 (fun H' => SqT K H' a xs) (YAt xs) e2 (fun H3 e3 => ex_t ((e1.trans e2).trans e3) hx) (by rw [← Paired.length hp]; exact walk_tup) fun i Ha x Hb ea y hi => by
    obtain ⟨rfl, hy⟩ := y
    obtain ⟨b, hb, rb⟩ := paired_get hp hy
    exact ⟨b, hb, Ex.refl _, rb _ ((e1.trans e2).trans ea)⟩⟩
theorem it_list (h : Ev tl σ H (.ref a)) (hx : SqL K H a xs) (hp : Paired (fun x b => ∀ H1, Ex H H1 → Ri b x H1) xs as) : ItP (iList K tl) σ H as Ri := fun H1 e1 Rk k =>
  h H1 e1 _ fun H2 e2 => ⟨a, rfl, ⟨xs, ex_l (e1.trans e2) hx⟩, k (Itl K a) H2 (fun H' => SqL K H' a xs) (YAt xs) e2 (fun H3 e3 => ex_l ((e1.trans e2).trans e3) hx) (by rw [← Paired.length hp]; exact walk_list) fun i Ha x Hb ea y hi => by
    obtain ⟨rfl, hy⟩ := y
    obtain ⟨b, hb, rb⟩ := paired_get hp hy
    exact ⟨b, hb, Ex.refl _, rb _ ((e1.trans e2).trans ea)⟩⟩
/-- over a new list -/
theorem it_nlist {R : α → Pr} (h : EvP tl σ H (LsP R as)) (st : ∀ b, StbT (R b)) : ItP (iList K tl) σ H as R := fun H1 e1 Rk k =>
  h H1 e1 _ fun v H2 e2 r => by
    obtain ⟨p, ys, rfl, hp, hq⟩ := r
    exact ⟨p, rfl, ⟨ys, SqL.of hp⟩, k (Itl K p) H2 (fun H' => SqL K H' p ys) (YAt ys) e2 (fun H3 e3 => SqL.of (e3 _ _ hp)) (by rw [← Paired.length hq]; exact walk_list) fun i Ha x Hb ea y hi => by
      obtain ⟨rfl, hy⟩ := y
      obtain ⟨b, hb, rb⟩ := paired_get hq hy
      exact ⟨b, hb, Ex.refl _, st b _ _ _ (tOf ea) rb⟩⟩
theorem it_range {ta : TA} {n : Nat} (h : EvA ta σ H [.int n]) (hn : n ≤ 100000) : ItP (iRng1 ta) σ H (List.range n) (fun i x _ => x = .int (i : Nat)) := fun H1 e1 Rk k =>
  h H1 e1 _ fun H2 e2 => ⟨n, rfl, by omega, by omega, k (Itr 0 ((n : Int)).toNat) H2 (fun _ => True) (YFn fun i => .int (0 + i)) e2 (fun _ _ => trivial) (by rw [List.length_range]; exact walk_range) fun i Ha x Hb ea y hi => by
    obtain ⟨rfl, rfl⟩ := y
    rw [List.length_range] at hi
    exact ⟨i, List.getElem?_range hi, Ex.refl _, congrArg V.int (Int.zero_add _)⟩⟩
end

/-! ### arguments -/
def isV (x : V) : Pr := fun v _ => v = x
theorem paired_isV {β : Type} (f : β → V) {H : Hp} : ∀ {ys : List V} {bs : List β}, Paired (fun y b => isV (f b) y H) ys bs → ys = bs.map f
  | _, _, .nil => rfl
  | _, _, .cons (b := b) r t => by
    have h : _ = f b := r
    rw [h, paired_isV f t]
    rfl
def EvAs (tt : TA) (σ : L2.St) (H : Hp) (Rs : List V → Hp → Prop) : Prop := ∀ H1, Ex H H1 → ∀ Q : List V → Hp → Prop, (∀ vs H2, Ex H1 H2 → Rs vs H2 → Q vs H2) → tt σ H1 Q
def Stb (R : Pr) : Prop := ∀ v H1 H2, Ex H1 H2 → R v H1 → R v H2
theorem stb_isV (x : V) : Stb (isV x) := fun _ _ _ _ h => h
theorem StbT.s {R : Pr} (h : StbT R) : Stb R := fun v H1 H2 e r => h v H1 H2 (tOf e) r
section
variable {K : PySem.W.Frag} {σ : L2.St} {H H' : Hp} {ta te tx : TE} {tr tt : TA} {R R2 : Pr} {Rs : List V → Hp → Prop} {v x y : V} {sp : Sp} {dvs vs : List V} {E : XK} {C p dx : Addr} {fs : List (Str × V)} {m : Str} {a : Addr} {xs ys : List V}
theorem ep_v (h : Ev te σ H v) : EvP te σ H (isV v) := ep_of h fun _ _ => rfl
theorem eas_nil : EvAs tNil σ H (fun vs _ => vs = []) := fun H1 _ _ q => q [] H1 (Ex.refl _) rfl
theorem eas_cons (h : EvP ta σ H R) (st : Stb R) (hr : EvAs tr σ H Rs) : EvAs (tCons ta tr) σ H (fun vs H1 => ∃ v r, vs = v :: r ∧ R v H1 ∧ Rs r H1) := fun H1 e1 Q q =>
  h H1 e1 _ fun v H2 e2 rv => hr H2 (e1.trans e2) _ fun r H3 e3 rr => q (v :: r) H3 (e2.trans e3) ⟨v, r, rfl, st v H2 H3 e3 rv, rr⟩
theorem eas_v (h : Ev ta σ H v) (hr : EvAs tr σ H Rs) : EvAs (tCons ta tr) σ H (fun vs H1 => ∃ r, vs = v :: r ∧ Rs r H1) := fun H1 e1 Q q =>
  h H1 e1 _ fun H2 e2 => hr H2 (e1.trans e2) _ fun r H3 e3 rr => q (v :: r) H3 (e2.trans e3) ⟨r, rfl, rr⟩
theorem eas_ea (h : EvA tt σ H vs) : EvAs tt σ H (fun us _ => us = vs) := fun H1 e1 Q q => h H1 e1 _ fun H2 e2 => q vs H2 e2 rfl
theorem ea_star {t : TA} (h : Ev te σ H (.ref a)) (hx : SqT K H a xs) (hr : EvA t σ H ys) : EvA (StX.tStar K te t) σ H (xs ++ ys) := fun H1 e1 Q q =>
  h H1 e1 _ fun H2 e2 => ⟨a, xs, rfl, .inl (ex_t (e1.trans e2) hx), hr H2 (e1.trans e2) _ fun H3 e3 => q H3 (e2.trans e3)⟩
/-- a call with arguments of which some are new -/
theorem ep_callA (h : EvAs tt σ H Rs) (hs : ∀ vs H1, Ex H H1 → Rs vs H1 → SpP sp (vs ++ dvs) H1 R) : EvP (tCall sp dvs E tt) σ H R := fun H1 e Q q =>
  h H1 e _ fun vs H2 e2 r => hs vs H2 (e.trans e2) r H2 (Ex.refl _) Q (fun v H3 e3 => q v H3 (e2.trans e3)) E
theorem ep_methA (ha : Ev ta σ H (.ref p)) (hp : H p = some (.ins C dx fs)) (n : fs.lookup m = none) (ht : EvAs tt σ H Rs) (hs : ∀ vs H1, Ex H H1 → Rs vs H1 → SpP sp (.ref p :: (vs ++ dvs)) H1 R) : EvP (tMeth C m sp dvs E ta tt) σ H R := fun H1 e Q q =>
  ha H1 e _ fun H2 e2 => ⟨p, dx, fs, rfl, e2 _ _ (e _ _ hp), n, ht H2 (e.trans e2) _ fun vs H3 e3 r => hs vs H3 ((e.trans e2).trans e3) r H3 (Ex.refl _) Q (fun v H4 e4 => q v H4 ((e2.trans e3).trans e4)) E⟩
/-- a new tuple -/
def TpV (K : PySem.W.Frag) (xs : List V) : Pr := fun v H => ∃ a, v = .ref a ∧ SqT K H a xs
theorem stb_TpV (K : PySem.W.Frag) (xs : List V) : StbT (TpV K xs) := fun _ _ _ e ⟨a, h1, h2⟩ => ⟨a, h1, sqT e h2⟩
theorem ep_tup (h : EvA tt σ H vs) (hl : vs.length ≤ 100000) : EvP (tTup tt) σ H (TpV K vs) := fun H1 e1 Q q =>
  h H1 e1 _ fun H2 e2 => ⟨sz_of hl, fun p hp => q (.ref p) _ (e2.trans (Ex.new hp)) ⟨p, rfl, SqT.of upd_same⟩⟩
theorem ep_tupA {n : Nat} (h : EvAs tt σ H Rs) (hl : ∀ vs H1, Rs vs H1 → vs.length = n) (hn : n ≤ 100000) (hR : ∀ vs a H1 H2, Ex H H1 → Rs vs H1 → Ex H1 H2 → H2 a = some (.tup vs) → R (.ref a) H2) : EvP (tTup tt) σ H R := fun H1 e1 Q q =>
  h H1 e1 _ fun vs H2 e2 r => ⟨sz_of (by rw [hl vs H2 r]; exact hn), fun p hp => q (.ref p) _ (e2.trans (Ex.new hp)) (hR vs p H2 _ (e1.trans e2) r (Ex.new hp) upd_same)⟩
/-- all(..) of a list of bools -/
theorem ev_allP {bs : List Bool} (h : EvP te σ H (LsP (fun b => isV (.bl b)) bs)) : Ev (tCB (rAll K) (tCons te tNil)) σ H (.bl (bs.all id)) := fun H1 e1 Q q =>
  h H1 e1 _ fun v H2 e2 r => by
    obtain ⟨p, ys, rfl, hp, hq⟩ := r
    have ey : ys = bs.map V.bl := paired_isV V.bl hq
    subst ey
    exact ⟨p, bs, rfl, SqL.of hp, q H2 e2⟩
end
end Ci

/-! ### loops over what stands still: tuples, ranges -/
namespace Ci
open PySem PySem.Spec PyProof.Rows L2 Evl
def ItT {α : Type} (wi : TI) (σ : L2.St) (H : Hp) (as : List α) (Ri : Nat → α → Pr) : Prop :=
  ∀ H1, Ex H H1 → ∀ Rk : It → Hp → Prop, (∀ (J : It) (H2 : Hp) (G : Hp → Prop) (Y : Nat → Hp → V → Hp → Prop), Ex H1 H2 → (∀ H3, ExT H2 H3 → G H3) → Walk J as.length G Y →
    (∀ i Ha x Hb, ExT H2 Ha → Y i Ha x Hb → i < as.length → ∃ a, as[i]? = some a ∧ Ex Ha Hb ∧ Ri i a x Hb) → Rk J H2) → wi σ H1 Rk
theorem s_for {α : Type} {wi : TI} {g : TG} {tb : TS} {D : Ends} {σ : L2.St} {H : Hp} {as : List α} {Ri : Nat → α → Pr} (hi : ItT wi σ H as Ri) (Pv : Hp → Nat → L2.St → Hp → Prop) (h0 : ∀ H2, Ex H H2 → Pv H2 0 σ H2)
    (hT : ∀ H2 i σ' H', Pv H2 i σ' H' → ExT H2 H')
    (hs : ∀ H2 i a x σ' Ha Hb, Ex H H2 → as[i]? = some a → Pv H2 i σ' Ha → Ex Ha Hb → Ri i a x Hb → g x σ' Hb fun σ2 H3 => tb { D with nx := Pv H2 (i + 1), ct := Pv H2 (i + 1), bk := D.nx } σ2 H3)
    (hd : ∀ H2 σ' H', Ex H H2 → Pv H2 as.length σ' H' → D.nx σ' H') : tFor wi g tb D σ H :=
  hi H (Ex.refl _) _ fun J H2 G Y e2 hG w hY => for_it w (Pv H2) (h0 H2 e2) (fun i σ' H' _ p => hG H' (hT H2 i σ' H' p)) (fun i x σ' Ha Hb hlt p y => by
    obtain ⟨a, ha, eab, ri⟩ := hY i Ha x Hb (hT H2 i σ' Ha p) y hlt
    exact hs H2 i a x σ' Ha Hb e2 ha p eab ri) fun σ' H' p => hd H2 σ' H' e2 p
section
variable {K : PySem.W.Frag} {σ : L2.St} {H : Hp} {tl : TE} {tt : TA} {α : Type} {a : Addr} {xs : List V} {as : List α} {Ri : Nat → α → Pr}
theorem itt_tup (h : Ev tl σ H (.ref a)) (hx : SqT K H a xs) (hp : Paired (fun x b => ∀ i H1, ExT H H1 → Ri i b x H1) xs as) : ItT (iTup K tl) σ H as Ri := fun H1 e1 Rk k =>
  h H1 e1 _ fun H2 e2 => ⟨a, rfl, ⟨xs, ex_t (e1.trans e2) hx⟩, k (Itt K a) H2 (fun H' => SqT K H' a xs) (YAt xs) e2 (fun H3 e3 => sqT ((tOf (e1.trans e2)).trans e3) hx) (by rw [← Paired.length hp]; exact walk_tup) fun i Ha x Hb ea y hi => by
    obtain ⟨rfl, hy⟩ := y
    obtain ⟨b, hb, rb⟩ := paired_get hp hy
    exact ⟨b, hb, Ex.refl _, rb i _ ((tOf (e1.trans e2)).trans ea)⟩⟩
/-- over a new tuple -/
theorem itt_ntup (h : EvP tl σ H (TpV K xs)) (hp : Paired (fun x b => ∀ i H1, ExT H H1 → Ri i b x H1) xs as) : ItT (iTup K tl) σ H as Ri := fun H1 e1 Rk k =>
  h H1 e1 _ fun v H2 e2 r => by
    obtain ⟨a, rfl, hx⟩ := r
    exact ⟨a, rfl, ⟨xs, hx⟩, k (Itt K a) H2 (fun H' => SqT K H' a xs) (YAt xs) e2 (fun H3 e3 => sqT e3 hx) (by rw [← Paired.length hp]; exact walk_tup) fun i Ha x Hb ea y hi => by
      obtain ⟨rfl, hy⟩ := y
      obtain ⟨b, hb, rb⟩ := paired_get hp hy
      exact ⟨b, hb, Ex.refl _, rb i _ ((tOf (e1.trans e2)).trans ea)⟩⟩
theorem itt_enum {Rb : α → Pr} (h : EvA tt σ H [.ref a]) (hx : SqT K H a xs) (hp : Paired (fun x b => ∀ H1, ExT H H1 → Rb b x H1) xs as) : ItT (CiR.iEnumT K tt) σ H as (fun i b x Hb => ∃ t y, x = .ref t ∧ Hb t = some (.tup [.int (i : Nat), y]) ∧ Rb b y Hb) := fun H1 e1 Rk k =>
  h H1 e1 _ fun H2 e2 => ⟨a, xs, rfl, ex_t (e1.trans e2) hx, k (CiR.IteT K a) H2 (fun H' => SqT K H' a xs) _ e2 (fun H3 e3 => sqT ((tOf (e1.trans e2)).trans e3) hx) (by rw [← Paired.length hp]; exact CiR.walk_enumT) fun i Ha x Hb ea y hi => by
    obtain ⟨t, x1, y1, rfl, ht, rfl, e3, hy⟩ := y
    cases e3
    obtain ⟨b, hb, rb⟩ := paired_get hp hy
    exact ⟨b, hb, Ex.new ht, t, y1, rfl, upd_same, rb _ (((tOf (e1.trans e2)).trans ea).trans (tOf (Ex.new ht)))⟩⟩
theorem itt_range {n : Nat} (h : EvA tt σ H [.int n]) (hn : n ≤ 100000) : ItT (iRng1 tt) σ H (List.range n) (fun i j x _ => j = i ∧ x = .int (i : Nat)) := fun H1 e1 Rk k =>
  h H1 e1 _ fun H2 e2 => ⟨n, rfl, by omega, by omega, k (Itr 0 ((n : Int)).toNat) H2 (fun _ => True) (YFn fun i => .int (0 + i)) e2 (fun _ _ => trivial) (by rw [List.length_range]; exact walk_range) fun i Ha x Hb ea y hi => by
    obtain ⟨rfl, rfl⟩ := y
    rw [List.length_range] at hi
    exact ⟨i, List.getElem?_range hi, Ex.refl _, rfl, congrArg V.int (Int.zero_add _)⟩⟩
end
end Ci

set_option Elab.async false
set_option linter.all false
set_option maxRecDepth 100000
set_option maxHeartbeats 4000000
/-! The methods of State, first_state, happened. -/
namespace Ci
open PySem PySem.Spec PyProof.Rows L2 Evl
open C8 (Cal Met Mak pe_c pe_mk pe_mt pe_mt0 pe_gc)
section
variable {P : Program} {w : World} {K : PySem.W.Frag} {mg : Str → Option Value} {base : Heap}

theorem bbt (b : Bool) : (b == true) = b := by cases b <;> rfl
theorem bbf (b : Bool) : (b == false) = !b := by cases b <;> rfl
/-! ### __init__ -/
def spStInit (K : PySem.W.Frag) : Sp := fun vs H Q _ => ∃ p dx a b c d e, vs = [.ref p, a, b, c, d, e] ∧ H p = some (.ins (aState K) dx []) ∧
  Q .non (upd H p (.ins (aState K) dx [("upper", a), ("here", b), ("before", c), ("wish", d), ("is_mine", e)]))
theorem mak_State (T : Txt K mg) : Mak P w K mg base 1 "State" (aState K) (spStInit K) [] := by
  obtain ⟨fd, F⟩ := T.f_State_init
  refine makD T.mk_State T.g_State F (F.bindsN fun _ _ _ _ _ _ us hl => match us, hl with | [_, _, _, _, _, _], _ => rfl) sc_State_init (fun vs H Q E h => ?_) (fun cdv A outer s H vs Q E hr h => ?_)
  · obtain ⟨p, dx, a, b, c, d, e, rfl, _⟩ := h
    rfl
  · obtain ⟨p, dx, a, b, c, d, e, rfl, hp, k⟩ := h
    refine ⟨_, (pss_cons (ps_fld (pv 0) (pv 1) rfl)
      (pss_cons (ps_fld (pv 0) (pv 2) rfl)
      (pss_cons (ps_fld (pv 0) (pv 3) rfl)
      (pss_cons (ps_fld (pv 0) (pv 4) rfl)
      (pss_one (ps_fld (pv 0) (pv 5) rfl)))))), ?_⟩
    refine ⟨a, rfl, _, rfl, p, _, dx, [], rfl, hp, T.cl_State, T.na_State_upper, (by decide), ?_⟩
    refine ⟨b, rfl, _, rfl, p, _, dx, [("upper", a)], rfl, upd_same, T.cl_State, T.na_State_here, (by show 1 < 1000; decide), ?_⟩
    refine ⟨c, rfl, _, rfl, p, _, dx, [("upper", a), ("here", b)], rfl, upd_same, T.cl_State, T.na_State_before, (by show 2 < 1000; decide), ?_⟩
    refine ⟨d, rfl, _, rfl, p, _, dx, [("upper", a), ("here", b), ("before", c)], rfl, upd_same, T.cl_State, T.na_State_wish, (by show 3 < 1000; decide), ?_⟩
    refine ⟨e, rfl, _, rfl, p, _, dx, [("upper", a), ("here", b), ("before", c), ("wish", d)], rfl, upd_same, T.cl_State, T.na_State_is_mine, (by show 4 < 1000; decide), ?_⟩
    rw [upd_upd, upd_upd, upd_upd, upd_upd]
    exact k
/-- a state at an address -/
def isSt (K : PySem.W.Frag) (s : St) : Pr := fun v H => ∃ p, v = .ref p ∧ StAt K H p s
theorem stb_isSt (K : PySem.W.Frag) (s : St) : StbT (isSt K s) := fun _ _ _ e ⟨p, h, S⟩ => ⟨p, h, S.t e⟩
section
variable {σ : L2.St} {H : Hp} {tt : TA} {E : XK} {te : TE}
theorem ep_State {a b c : Val} {wi : Option Val} {m : Bool} (h : EvAs tt σ H (fun vs H1 => ∃ w, vs = [vo a, vo b, vo c, .ref w, .bl m] ∧ SqT K H1 w (wl wi))) : EvP (tMake (aState K) (spStInit K) [] E tt) σ H (isSt K ⟨a, b, c, wi, m⟩) := fun H1 e1 Q q =>
  h H1 e1 _ fun vs H2 e2 ⟨w, ev, hw⟩ => fun x dx nx ndx nex => by
    subst ev
    have e3 : Ex H2 (upd (upd H2 dx (.own x)) x (.ins (aState K) dx [("upper", vo a), ("here", vo b), ("before", vo c), ("wish", .ref w), ("is_mine", .bl m)])) :=
      (Ex.new ndx).trans (Ex.new (by rw [upd_ne (Ne.symm nex)]; exact nx))
    refine ⟨x, dx, _, _, _, _, _, rfl, upd_same, rfl, ?_⟩
    rw [upd_upd]
    exact q (.ref x) _ (e2.trans e3) ⟨x, rfl, ⟨dx, w, upd_same, ex_t e3 hw⟩⟩
end

/-! ### is_so -/
def spIsSo (K : PySem.W.Frag) : Sp := fun vs H Q _ => ∃ p s v t a, vs = [.ref p, v, .str (ansS a)] ∧ StAt K H p s ∧ Dp K H v (testD t) ∧ RetV (.bl (s.so a t)) H Q
theorem spv_value {H : Hp} {p : Addr} {s : St} (S : StAt K H p s) (q : Sp3) : SpV (spValue K) [.ref p, .str (sp3S q)] H (vo (s.val q)) := fun H1 e Q k E => ⟨p, s, q, rfl, S.x e, fun H2 e2 => k H2 e2⟩
theorem ev_value {σ : L2.St} {H : Hp} {ta tb : TE} {p : Addr} {s : St} {q : Sp3} {E : XK} (T : Txt K mg) (S : StAt K H p s) (ha : Ev ta σ H (.ref p)) (hb : Ev tb σ H (.str (sp3S q))) : Ev (tMeth (aState K) "value" (spValue K) [] E ta (tCons tb tNil)) σ H (vo (s.val q)) := by
  obtain ⟨dx, w, h1, h2⟩ := S.ex
  exact ev_meth ha h1 rfl (ea_cons hb ea_nil) (spv_value S q)
theorem met_State_is_so (T : Txt K mg) : Met P w K mg base 2 (aState K) "is_so" (spIsSo K) [] := by
  obtain ⟨fd, F⟩ := T.f_State_is_so
  refine metD T.cl_State T.m_State_is_so F (F.bindsN fun _ _ _ _ _ _ us hl => match us, hl with | [_, _, _], _ => rfl) sc_State_is_so (fun vs H Q E h => ?_) (fun cdv A outer s H vs Q E hr h => ?_)
  · obtain ⟨p, s, v, t, a, rfl, _⟩ := h
    rfl
  · obtain ⟨p, s, v, t, a, rfl, S, D, k⟩ := h
    obtain ⟨x, rfl, hx⟩ := dp_strs D
    obtain ⟨fl, g_FLAGS, dF⟩ := T.c_FLAGS
    refine ⟨_, (pss_cons (ps_set (i := 3) sc_State_is_so.nd rfl (Or.inl rfl) (pix (kIxT K) (pv 1) pe_int))
      (pss_cons (ps_if (ptc (kIn K) (pv 3) (pe_tup (pa_cons pe_str (pa_cons pe_str pa_nil))))
        (pss_one (ps_ret (pec op_eq (pec op_eq (pe_mt (met_State_value T) hr (by decide) (pv 0) (pa_cons (pix (kIxT K) (pv 1) pe_int) pa_nil)) (pe_mt (met_State_value T) hr (by decide) (pv 0) (pa_cons (pix (kIxT K) (pv 1) pe_int) pa_nil))) (pec op_eq (pv 3) pe_str))))
        pss_nil)
      (pss_cons (ps_if (ptc (kIn K) (pv 3) (pe_tup (pa_cons pe_str (pa_cons pe_str pa_nil))))
        (pss_one (ps_ret (pec op_eq (pec op_isN (pe_mt (met_State_value T) hr (by decide) (pv 0) (pa_cons (pix (kIxT K) (pv 1) pe_int) pa_nil)) pe_non) (pec op_eq (pv 3) pe_str))))
        pss_nil)
      (pss_cons (ps_if (ptc (kIn K) (pv 3) (pe_gc rfl g_FLAGS))
        (pss_one (ps_ret (pec op_eq (pf K (pv 0)) (pec op_eq (pv 3) pe_str))))
        pss_nil)
      (pss_one (ps_ret (pec op_eq (pv 3) (pv 2)))))))), ?_⟩
    have hF : ∀ H, SqT K H fl [.str "mine", .str "free"] := fun H => by
      obtain ⟨a, e, h⟩ := dp_strs (ss := ["mine", "free"]) (dF H)
      cases e
      exact h
    have no2 : ∀ {σ : L2.St} {H' : Hp} {z a b : Str} {c : Bool}, Ev (tVar 3) σ H' (.str z) → inV (.str z) [.str a, .str b] = c → EvT (tTest (tOp (rIn K false) (tVar 3) (tTup (tCons (tC (.str a)) (tCons (tC (.str b)) tNil))))) σ H' c := fun h1 h2 =>
      et_is (et_test (ev_inU h1 (eu_tup (ea_cons ev_c (ea_cons ev_c ea_nil)) (by show 2 ≤ 100000; decide)) rfl rfl)) h2
    have noF : ∀ {σ : L2.St} {H' : Hp} {z : Str} {c : Bool}, Ev (tVar 3) σ H' (.str z) → inV (.str z) [.str "mine", .str "free"] = c → EvT (tTest (tOp (rIn K false) (tVar 3) (tC (.ref fl)))) σ H' c := fun h1 h2 =>
      et_is (et_test (ev_op h1 ev_c (rv_isT (hF _) rfl rfl))) h2
    have r1 : ∀ {H' : Hp}, Ex H H' → SqT K H' x ((testS t).map V.str) := fun e => ex_t e hx
    cases t with
    | same q1 q2 =>
      refine q_asg (ev_op (ev_var rfl) ev_c (rv_ixT hx rfl)) fun H1 e1 => ?_
      refine q_when (no2 (ev_var rfl) (c := true) (by decide +kernel)) (fun _ H2 e2 => ?_) fun h => by cases h
      have e := e1.trans e2
      refine s_ret (ev_is (ev_eqb (ev_eqv (ev_value T (S.x e) (ev_var rfl) (ev_op (ev_var rfl) ev_c (rv_ixT (r1 e) rfl))) (ev_value T (S.x e) (ev_var rfl) (ev_op (ev_var rfl) ev_c (rv_ixT (r1 e) rfl)))) (ev_eqs (ev_var rfl) ev_c (c := true) (by decide +kernel))) (congrArg V.bl (bbt _))) fun H3 e3 => k H3 (e.trans e3)
    | unlike q1 q2 =>
      refine q_asg (ev_op (ev_var rfl) ev_c (rv_ixT hx rfl)) fun H1 e1 => ?_
      refine q_when (no2 (ev_var rfl) (c := true) (by decide +kernel)) (fun _ H2 e2 => ?_) fun h => by cases h
      have e := e1.trans e2
      refine s_ret (ev_is (ev_eqb (ev_eqv (ev_value T (S.x e) (ev_var rfl) (ev_op (ev_var rfl) ev_c (rv_ixT (r1 e) rfl))) (ev_value T (S.x e) (ev_var rfl) (ev_op (ev_var rfl) ev_c (rv_ixT (r1 e) rfl)))) (ev_eqs (ev_var rfl) ev_c (c := false) (by decide +kernel))) (congrArg V.bl (bbf _))) fun H3 e3 => k H3 (e.trans e3)
    | there q1 =>
      refine q_asg (ev_op (ev_var rfl) ev_c (rv_ixT hx rfl)) fun H1 e1 => ?_
      refine q_when (no2 (ev_var rfl) (c := false) (by decide +kernel)) (fun h => by cases h) fun _ H2 e2 => ?_
      refine q_when (no2 (ev_var rfl) (c := true) (by decide +kernel)) (fun _ H3 e3 => ?_) fun h => by cases h
      have e := (e1.trans e2).trans e3
      refine s_ret (ev_is (ev_eqb (ev_isN (ev_value T (S.x e) (ev_var rfl) (ev_op (ev_var rfl) ev_c (rv_ixT (r1 e) rfl)))) (ev_eqs (ev_var rfl) ev_c (c := false) (by decide +kernel))) (congrArg V.bl ?_)) fun H3 e3 => k H3 (e.trans e3)
      rw [bbf]
      show (!(s.val q1).isNone) = (s.val q1).isSome
      cases s.val q1 <;> rfl
    | gone q1 =>
      refine q_asg (ev_op (ev_var rfl) ev_c (rv_ixT hx rfl)) fun H1 e1 => ?_
      refine q_when (no2 (ev_var rfl) (c := false) (by decide +kernel)) (fun h => by cases h) fun _ H2 e2 => ?_
      refine q_when (no2 (ev_var rfl) (c := true) (by decide +kernel)) (fun _ H3 e3 => ?_) fun h => by cases h
      have e := (e1.trans e2).trans e3
      refine s_ret (ev_is (ev_eqb (ev_isN (ev_value T (S.x e) (ev_var rfl) (ev_op (ev_var rfl) ev_c (rv_ixT (r1 e) rfl)))) (ev_eqs (ev_var rfl) ev_c (c := true) (by decide +kernel))) (congrArg V.bl (bbt _))) fun H3 e3 => k H3 (e.trans e3)
    | mine =>
      refine q_asg (ev_op (ev_var rfl) ev_c (rv_ixT hx rfl)) fun H1 e1 => ?_
      refine q_when (no2 (ev_var rfl) (c := false) (by decide +kernel)) (fun h => by cases h) fun _ H2 e2 => ?_
      refine q_when (no2 (ev_var rfl) (c := false) (by decide +kernel)) (fun h => by cases h) fun _ H3 e3 => ?_
      refine q_when (noF (ev_var rfl) (c := true) (by decide +kernel)) (fun _ H4 e4 => ?_) fun h => by cases h
      have e := ((e1.trans e2).trans e3).trans e4
      refine s_ret (ev_is (ev_eqb (ev_mine T (S.x e) (ev_var rfl)) (ev_eqs (ev_var rfl) ev_c (c := true) (by decide +kernel))) (congrArg V.bl (bbt _))) fun H3 e3 => k H3 (e.trans e3)
    | free =>
      refine q_asg (ev_op (ev_var rfl) ev_c (rv_ixT hx rfl)) fun H1 e1 => ?_
      refine q_when (no2 (ev_var rfl) (c := false) (by decide +kernel)) (fun h => by cases h) fun _ H2 e2 => ?_
      refine q_when (no2 (ev_var rfl) (c := false) (by decide +kernel)) (fun h => by cases h) fun _ H3 e3 => ?_
      refine q_when (noF (ev_var rfl) (c := true) (by decide +kernel)) (fun _ H4 e4 => ?_) fun h => by cases h
      have e := ((e1.trans e2).trans e3).trans e4
      refine s_ret (ev_is (ev_eqb (ev_mine T (S.x e) (ev_var rfl)) (ev_eqs (ev_var rfl) ev_c (c := false) (by decide +kernel))) (congrArg V.bl (bbf _))) fun H3 e3 => k H3 (e.trans e3)
    | yes =>
      refine q_asg (ev_op (ev_var rfl) ev_c (rv_ixT hx rfl)) fun H1 e1 => ?_
      refine q_when (no2 (ev_var rfl) (c := false) (by decide +kernel)) (fun h => by cases h) fun _ H2 e2 => ?_
      refine q_when (no2 (ev_var rfl) (c := false) (by decide +kernel)) (fun h => by cases h) fun _ H3 e3 => ?_
      refine q_when (noF (ev_var rfl) (c := false) (by decide +kernel)) (fun h => by cases h) fun _ H4 e4 => ?_
      refine s_ret (ev_eqs (ev_var rfl) (ev_var rfl) (c := a) ?_) fun H5 e5 => k H5 ((((e1.trans e2).trans e3).trans e4).trans e5)
      cases a <;> decide +kernel
    | no =>
      refine q_asg (ev_op (ev_var rfl) ev_c (rv_ixT hx rfl)) fun H1 e1 => ?_
      refine q_when (no2 (ev_var rfl) (c := false) (by decide +kernel)) (fun h => by cases h) fun _ H2 e2 => ?_
      refine q_when (no2 (ev_var rfl) (c := false) (by decide +kernel)) (fun h => by cases h) fun _ H3 e3 => ?_
      refine q_when (noF (ev_var rfl) (c := false) (by decide +kernel)) (fun h => by cases h) fun _ H4 e4 => ?_
      refine s_ret (ev_eqs (ev_var rfl) (ev_var rfl) (c := !a) ?_) fun H5 e5 => k H5 ((((e1.trans e2).trans e3).trans e4).trans e5)
      cases a <;> decide +kernel
end
end Ci

set_option Elab.async false
set_option linter.all false
set_option maxRecDepth 100000
set_option maxHeartbeats 4000000
/-! The methods of State (2). -/
namespace Ci
open PySem PySem.Spec PyProof.Rows L2 Evl
open C8 (Cal Met Mak pe_c pe_mk pe_mt pe_mt0 pe_gc)
section
variable {P : Program} {w : World} {K : PySem.W.Frag} {mg : Str → Option Value} {base : Heap}

/-! ### row_for -/
def spRowFor (K : PySem.W.Frag) : Sp := fun vs H Q _ => ∃ p s r notes rows a, vs = [.ref p, .ref r, .str (ansS a)] ∧ StAt K H p s ∧ RlAt K H r notes rows ∧ RetV (.int (rowIx s a rows 0)) H Q
section
variable {σ : L2.St} {H : Hp} {ta tb tc : TE} {p : Addr} {s : St} {E : XK}
theorem ev_so (T : Txt K mg) (S : StAt K H p s) {v : V} {t : Test} {a : Bool} (ha : Ev ta σ H (.ref p)) (hb : Ev tb σ H v) (hc : Ev tc σ H (.str (ansS a))) (D : Dp K H v (testD t)) : Ev (tMeth (aState K) "is_so" (spIsSo K) [] E ta (tCons tb (tCons tc tNil))) σ H (.bl (s.so a t)) := by
  obtain ⟨dx, w, h1, h2⟩ := S.ex
  exact ev_meth ha h1 rfl (ea_cons hb (ea_cons hc ea_nil)) fun H1 e Q k E => ⟨p, s, v, t, a, rfl, S.x e, dpT (tOf e) _ _ (noL_strs _) D, fun H2 e2 => k H2 e2⟩
theorem ev_table (T : Txt K mg) {r dx : Addr} {n t : V} (h : H r = some (.ins (aRule K) dx (rlF n t))) (ha : Ev ta σ H (.ref r)) : Ev (tFld K ta "table") σ H t := ev_fld ha h T.cl_Rule T.na_Rule_table rfl
end
theorem dps_paired {α : Type} (f : α → PyData) (hn : ∀ a, noL (f a) = true) {H : Hp} : ∀ {as : List α} {xs : List V}, DpAll K H xs (as.map f) → Paired (fun x b => ∀ H1, ExT H H1 → Dp K H1 x (f b)) xs as
  | [], _, h => by
    cases h
    exact .nil
  | a :: as, _, h => by
    cases h with
    | cons h1 h2 => exact .cons (fun H1 e => dpT e _ _ (hn a) h1) (dps_paired f hn h2)
theorem all_map {α : Type} (f : α → Bool) (as : List α) : (((as.filter fun _ => true).map f).all id) = as.all f := by
  rw [List.filter_eq_self.mpr (fun _ _ => rfl), List.all_map]
  rfl
theorem ev_tYes {σ : L2.St} {H : Hp} : EvT tYes σ H true := fun H1 e Q q => q H1 (Ex.refl _)
theorem met_State_row_for (T : Txt K mg) : Met P w K mg base 3 (aState K) "row_for" (spRowFor K) [] := by
  obtain ⟨fd, F⟩ := T.f_State_row_for
  refine metD T.cl_State T.m_State_row_for F (F.bindsN fun _ _ _ _ _ _ us hl => match us, hl with | [_, _, _], _ => rfl) sc_State_row_for (fun vs H Q E h => ?_) (fun cdv A outer s H vs Q E hr h => ?_)
  · obtain ⟨p, s, r, notes, rows, a, rfl, _⟩ := h
    rfl
  · obtain ⟨p, s, r, notes, rows, a, rfl, S, R, k⟩ := h
    refine ⟨_, (pss_cons (ps_for PassesOwn.never rfl (CiR.pi_enumT (by rfl) T.z_enumerate (pa_cons (pf K (pv 1)) pa_nil)) (kTup K (n := 2) (pgs_cons (pg_name (i := 3) sc_State_row_for.nd rfl (Or.inl rfl)) (pgs_cons (kTup K (n := 2) (pgs_cons (pg_name (i := 4) sc_State_row_for.nd rfl (Or.inl rfl)) (pgs_cons (pg_name (i := 5) sc_State_row_for.nd rfl (Or.inl rfl)) pgs_nil))) pgs_nil)))
        (pss_one (ps_if (pt_val (pe_callB (kAll K) (by rfl) T.z_all (by decide +kernel) (pa_cons (pe_lc (own := [("test", 6)]) (by rfl) sc_State_row_for.nd (pi_tup (pv 4)) (blkOk_by (own := [("test", 6)]) (N := n_State_row_for) (sc := defScope s_State_row_for) (by decide +kernel)) (fun _ _ _ _ _ => (pg_name (i := 6) sc_State_row_for.nd rfl (Or.inl rfl))) (fun _ _ _ _ _ => pts_nil) (fun _ _ _ _ _ => (pe_mt (met_State_is_so T) hr (by decide) (pv 0) (pa_cons (pv 6) (pa_cons (pv 2) pa_nil))))) pa_nil)))
          (pss_one (ps_ret (pv 3)))
          pss_nil)))
      (pss_one (ps_ret (pe_un un_neg pe_int)))), ?_⟩
    obtain ⟨dx, n, t, hR, _, hT⟩ := R.ex
    obtain ⟨b, xs, rfl, hx, hd⟩ := dp_tup hT
    refine s_for (itt_enum (as := rows) (Rb := fun row y H' => Dp K H' y (rowD row)) (ea_cons (ev_table T hR (ev_var rfl)) ea_nil) hx (dps_paired rowD noL_row hd)) (fun H2 i σ' H' => Ex H2 H' ∧ (∃ u1 u2 u3 u4, σ' = [some (.ref p), some (.ref r), some (.str (ansS a)), u1, u2, u3, u4]) ∧ rowIx s a rows 0 = rowIx s a (rows.drop i) i) (fun H2 e2 => ⟨Ex.refl _, ⟨none, none, none, none, rfl⟩, rfl⟩) (fun H2 i σ' H' h => tOf h.1) ?_ ?_
    · rintro H2 i row x σ' Ha Hb eH2 hrow ⟨ea, ⟨u1, u2, u3, u4, rfl⟩, hix⟩ eab ⟨A', y1, rfl, hA, hd2⟩
      obtain ⟨c, zs, rfl, hc, hcd⟩ := dp_tup hd2
      have hil : i < rows.length := (List.getElem?_eq_some_iff.mp hrow).1
      have edrop : rows.drop i = row :: rows.drop (i + 1) := by
        rw [List.drop_eq_getElem_cons hil]
        rw [List.getElem?_eq_getElem hil] at hrow
        rw [Option.some.inj hrow]
      cases hcd with
      | cons h1 h2 =>
        rename_i v1 vr
        cases h2 with
        | cons h3 h4 =>
          rename_i v2 vr2
          cases h4
          obtain ⟨tt, ts, rfl, htt, htd⟩ := dp_tup h1
          have e1 := ea.trans eab
          have eH := eH2.trans e1
          refine ⟨A', _, rfl, SqT.of hA, rfl, .int (i : Nat), _, rfl, ?_⟩
          refine ⟨.ref c, _, rfl, ⟨c, _, rfl, hc, rfl, .ref tt, _, rfl, v2, _, rfl, rfl, rfl, ?_⟩⟩
          refine s_when (b := s.fits a row) (et_B (ev_is (ev_allP (bs := (row.tests.filter fun _ => true).map (s.so a)) (ep_comp row.tests (fun _ => true) (s.so a) (fun t v H' => Dp K H' v (testD t)) (fun t σ2 H' => ∃ v, σ2 = [some (.ref p), some (.ref r), some (.str (ansS a)), some (.int (i : Nat)), some (.ref tt), some v2, some v] ∧ Dp K H' v (testD t)) (it_tup (ev_var rfl) htt (Paired.mapP (dps_paired testD (fun t => noL_strs _) htd) fun _ _ h H1 e => h H1 (tOf e))) ?_ ?_ ?_ ?_ ?_)) (congrArg V.bl (all_map _ _)))) ?_ ?_
          · rintro t v H' _ _ D Kt kt
            exact kt _ rfl ⟨v, rfl, D⟩
          · rintro t σ2 H' _ _ _
            exact ev_tYes
          · rintro t σ2 H' _ e' ⟨v, rfl, D⟩ _
            exact ep_v (ev_so T (S.x (eH.trans e')) (ev_var rfl) (ev_var rfl) (ev_var rfl) D)
          · exact fun b _ _ _ _ h => h
          · exact Nat.le_trans (R.many.2 row (List.mem_of_getElem? hrow)) (by decide)
          · intro hf H5 e5
            refine s_ret (ev_var rfl) fun H6 e6 => ?_
            have e0 : rowIx s a rows 0 = (i : Int) := by
              rw [hix, edrop]
              show (if s.fits a row = true then (i : Int) else _) = _
              rw [if_pos hf]
            rw [e0] at k
            exact k H6 ((eH.trans e5).trans e6)
          · intro hf H5 e5
            refine ⟨e1.trans e5, ⟨_, _, _, _, rfl⟩, ?_⟩
            rw [hix, edrop]
            show (if s.fits a row = true then (i : Int) else _) = _
            rw [if_neg (by rw [hf]; decide)]
    · rintro H2 σ' H' eH2 ⟨eH, ⟨u1, u2, u3, u4, rfl⟩, hix⟩
      refine s_ret (σ := [some (.ref p), some (.ref r), some (.str (ansS a)), u1, u2, u3, u4]) (ev_un ev_c ru_neg) fun H6 e6 => ?_
      have e0 : rowIx s a rows 0 = -1 := by
        rw [hix, List.drop_length]
        rfl
      rw [e0] at k
      exact k H6 ((eH2.trans eH).trans e6)
end
end Ci

set_option Elab.async false
set_option linter.all false
set_option maxRecDepth 100000
set_option maxHeartbeats 4000000
/-! The methods of State (3), first_state, happened. -/
namespace Ci
open PySem PySem.Spec PyProof.Rows L2 Evl
open C8 (Cal Met Mak pe_c pe_mk pe_mt pe_mt0 pe_gc)

/-! ### events as data -/
def evD : Evt → PyData
  | .val w i => .tuple [.str (wordS w), .int i]
  | .plain w => .tuple [.str (wordS w)]
  | .carry a => .tuple [.str "carry", .str (ansS a)]
def Evt.ok : Evt → Bool
  | .val w _ => w.valued
  | .plain w => !w.valued
  | .carry _ => true
theorem noL_ev (e : Evt) : noL (evD e) = true := by
  cases e <;> simp only [evD, noL, noLs, Bool.and_self]
theorem rowIx_at (s : St) (a : Bool) : ∀ (rows : List Row) (j : Nat), (rowIx s a rows j = -1 ∧ actOf s a rows = .keep) ∨ ∃ i r, rowIx s a rows j = ((j + i : Nat) : Int) ∧ rows[i]? = some r ∧ actOf s a rows = r.act
  | [], j => .inl ⟨rfl, rfl⟩
  | r :: rs, j => by
    by_cases h : s.fits a r = true
    · refine .inr ⟨0, r, ?_, rfl, ?_⟩
      · show (if s.fits a r = true then (j : Int) else _) = _
        rw [if_pos h]
        rfl
      · show (if s.fits a r = true then r.act else _) = _
        rw [if_pos h]
    · have e1 : rowIx s a (r :: rs) j = rowIx s a rs (j + 1) := by
        show (if s.fits a r = true then (j : Int) else _) = _
        rw [if_neg h]
      have e2 : actOf s a (r :: rs) = actOf s a rs := by
        show (if s.fits a r = true then r.act else _) = _
        rw [if_neg h]
      rw [e1, e2]
      rcases rowIx_at s a rs (j + 1) with h1 | ⟨i, r', h1, h2, h3⟩
      · exact .inl h1
      · exact .inr ⟨i + 1, r', by rw [h1]; congr 1; omega, h2, h3⟩

section
variable {K : PySem.W.Frag} {σ : L2.St} {H : Hp} {ta tb te : TE} {tt : TA} {D : Ends} {tz : TS} {p : Addr} {s : St} {v w : V} {i j : Nat} {mg : Str → Option Value} {E : XK}
theorem q_par (h : EvA tt σ H [v, w]) (k : ∀ H1, Ex H H1 → tz D ((σ.set i (some v)).set j (some w)) H1) : tSeq (tPar i j tt) tz D σ H := h H (Ex.refl _) _ fun H1 e => ⟨v, w, rfl, k H1 e⟩
theorem s_par (h : EvA tt σ H [v, w]) (k : ∀ H1, Ex H H1 → D.nx ((σ.set i (some v)).set j (some w)) H1) : tPar i j tt D σ H := h H (Ex.refl _) _ fun H1 e => ⟨v, w, rfl, k H1 e⟩
theorem et_lt0 {n : Int} (h : Ev ta σ H (.int n)) {b : Bool} (hb : decide (n < 0) = b) : EvT (tTest (tOp (rI0 fun i j => .bl (decide (i < j))) ta (tC (.int 0)))) σ H b := by
  subst hb
  exact et_test (ev_op h ev_c (rv_I0 (g := fun i j => V.bl (decide (i < j)))))
/-- the wish, as data -/
def wishD (w : Option Val) : PyData := .tuple (w.toList.map valD)
theorem dp_val (K : PySem.W.Frag) (H : Hp) (v : Val) : Dp K H (vo v) (valD v) := by
  cases v
  · exact .non
  · exact .int _
theorem dp_wish {a : Addr} {x : Option Val} (h : SqT K H a (wl x)) : Dp K H (.ref a) (wishD x) := by
  refine .tup h ?_
  cases x with
  | none => exact .nil
  | some v => exact .cons (dp_val K H v) .nil
theorem sh_wish (x : Option Val) : SeqAt.shaped (wishD x) = true := by
  cases x with
  | none => rfl
  | some v => cases v <;> simp [SeqAt.shaped, wishD, valD, PyData.canLay0, PyData.canLayAll0, PyData.depth, PyData.depthAll]
theorem eqv_wish (x : Option Val) : PyData.eqv (wishD x) (.tuple []) = x.isNone := by
  cases x with
  | none => simp [wishD, PyData.eqv, PyData.eqvAll]
  | some v => simp [wishD, PyData.eqv, PyData.eqvAll]
theorem rv_eqD {x y : V} {d e : PyData} (hx : ∀ H1, Ex H H1 → Dp K H1 x d) (hy : ∀ H1, Ex H H1 → Dp K H1 y e) (sd : SeqAt.shaped d = true) (se : SeqAt.shaped e = true) : RV (rEqD K) x y H (.bl (PyData.eqv d e)) := fun H1 e1 _ q => ⟨d, e, hx H1 e1, hy H1 e1, sd, se, q H1 (Ex.refl _)⟩
theorem rv_neD {x y : V} {d e : PyData} (hx : ∀ H1, Ex H H1 → Dp K H1 x d) (hy : ∀ H1, Ex H H1 → Dp K H1 y e) (sd : SeqAt.shaped d = true) (se : SeqAt.shaped e = true) : RV (rNeD K) x y H (.bl (!PyData.eqv d e)) := fun H1 e1 _ q => ⟨d, e, hx H1 e1, hy H1 e1, sd, se, q H1 (Ex.refl _)⟩
theorem eu_nil : EvU (tTup tNil) σ H [] := eu_tup ea_nil (by decide)
theorem ev_wishE (T : Txt K mg) (S : StAt K H p s) (ha : Ev ta σ H (.ref p)) : Ev (tOp (rEqD K) (tFld K ta "wish") (tTup tNil)) σ H (.bl s.wish.isNone) := by
  obtain ⟨dx, w, h1, h2⟩ := S.ex
  refine ev_is (ev_opU (ev_wish T h1 ha) eu_nil fun q H1 hq e => rv_eqD (fun H2 e2 => dp_wish (ex_t (e.trans e2) h2)) (fun H2 e2 => .tup (SqT.of (e2 _ _ hq)) .nil) (sh_wish _) rfl) (congrArg V.bl (eqv_wish _))
theorem ev_wishN (T : Txt K mg) (S : StAt K H p s) (ha : Ev ta σ H (.ref p)) : Ev (tOp (rNeD K) (tFld K ta "wish") (tTup tNil)) σ H (.bl s.wish.isSome) := by
  obtain ⟨dx, w, h1, h2⟩ := S.ex
  refine ev_is (ev_opU (ev_wish T h1 ha) eu_nil fun q H1 hq e => rv_neD (fun H2 e2 => dp_wish (ex_t (e.trans e2) h2)) (fun H2 e2 => .tup (SqT.of (e2 _ _ hq)) .nil) (sh_wish _) rfl) (congrArg V.bl ?_)
  rw [eqv_wish]
  cases s.wish <;> rfl
end

section
variable {P : Program} {w : World} {K : PySem.W.Frag} {mg : Str → Option Value} {base : Heap}
/-! ### due, word -/
def spDue (K : PySem.W.Frag) : Sp := fun vs H Q _ => ∃ p s y, vs = [.ref p, .str (wayS y)] ∧ StAt K H p s ∧ RetV (vo (s.due y)) H Q
theorem met_State_due (T : Txt K mg) : Met P w K mg base 1 (aState K) "due" (spDue K) [] := by
  obtain ⟨fd, F⟩ := T.f_State_due
  refine metD T.cl_State T.m_State_due F (F.bindsN fun _ _ _ _ _ _ us hl => match us, hl with | [_, _], _ => rfl) sc_State_due (fun vs H Q E h => ?_) (fun cdv A outer s H vs Q E hr h => ?_)
  · obtain ⟨p, s, y, rfl, _⟩ := h
    rfl
  · obtain ⟨p, s, y, rfl, S, k⟩ := h
    obtain ⟨u, g1, r1⟩ := T.c_EVERY
    have g_EVERY : ∃ u, mg "EVERY" = some u ∧ RelV (.str "every") u := ⟨u, g1, r1⟩
    refine ⟨_, (pss_cons (ps_if (ptc op_eq (pv 1) (pe_gc rfl g_EVERY))
        (pss_one (ps_ret (pe_ifExp (ptc (kEqD K hr) (pf K (pv 0)) (pe_tup pa_nil)) (pf K (pv 0)) (pix (kIxT K) (pf K (pv 0)) pe_int))))
        pss_nil)
      (pss_one (ps_ret (pe_ifExp (ptc op_eq (pf K (pv 0)) (pf K (pv 0))) (pf K (pv 0)) (pf K (pv 0)))))), ?_⟩
    obtain ⟨dx, wa, h1, h2⟩ := id S.ex
    cases y with
    | every =>
      refine q_when (et_eqs (ev_var rfl) ev_c (c := true) (by decide +kernel)) (fun _ H1 e => ?_) fun h => by cases h
      refine s_ret (v := vo (s.due .every)) (ev_if (et_test (ev_wishE T (S.x e) (ev_var rfl))) (fun hn => ?_) (fun hn => ?_)) fun H2 e2 => k H2 (e.trans e2)
      · refine ev_is (ev_up T (S.x e) (ev_var rfl)) (congrArg vo ?_)
        show s.up = match s.wish with | none => s.up | some w => w
        rw [Option.isNone_iff_eq_none.mp hn]
      · cases hw : s.wish with
        | none =>
          rw [hw] at hn
          cases hn
        | some v =>
          rw [hw] at h2
          refine ev_is (ev_op (ev_wish T (e _ _ h1) (ev_var rfl)) ev_c (rv_ixT (ex_t e h2) rfl)) (congrArg vo ?_)
          show v = match s.wish with | none => s.up | some w => w
          rw [hw]
    | changed =>
      refine q_when (et_eqs (ev_var rfl) ev_c (c := false) (by decide +kernel)) (fun h => by cases h) fun _ H1 e => ?_
      refine s_ret (v := vo (s.due .changed)) (ev_if (et_test (ev_eqv (ev_here T (S.x e) (ev_var rfl)) (ev_before T (S.x e) (ev_var rfl)))) (fun hn => ?_) (fun hn => ?_)) fun H2 e2 => k H2 (e.trans e2)
      · refine ev_is (ev_up T (S.x e) (ev_var rfl)) (congrArg vo ?_)
        show s.up = if s.here = s.before then s.up else s.here
        rw [if_pos (of_decide_eq_true hn)]
      · refine ev_is (ev_here T (S.x e) (ev_var rfl)) (congrArg vo ?_)
        show s.here = if s.here = s.before then s.up else s.here
        rw [if_neg (of_decide_eq_false hn)]
def spWord (K : PySem.W.Frag) : Sp := fun vs H Q _ => ∃ p s y, vs = [.ref p, .str (wayS y)] ∧ StAt K H p s ∧ RetV (.str (fltS (s.word y))) H Q
theorem met_State_word (T : Txt K mg) : Met P w K mg base 1 (aState K) "word" (spWord K) [] := by
  obtain ⟨fd, F⟩ := T.f_State_word
  refine metD T.cl_State T.m_State_word F (F.bindsN fun _ _ _ _ _ _ us hl => match us, hl with | [_, _], _ => rfl) sc_State_word (fun vs H Q E h => ?_) (fun cdv A outer s H vs Q E hr h => ?_)
  · obtain ⟨p, s, y, rfl, _⟩ := h
    rfl
  · obtain ⟨p, s, y, rfl, S, k⟩ := h
    have g_EVERY := T.c_EVERY
    have g_LOST := T.c_LOST
    have g_MISSED := T.c_MISSED
    refine ⟨_, (pss_cons (ps_set (i := 2) sc_State_word.nd rfl (Or.inl rfl) (pe_ifExp (ptc op_eq (pv 1) (pe_gc rfl g_EVERY)) (pec (kNeD K hr) (pf K (pv 0)) (pe_tup pa_nil)) (pec op_ne (pf K (pv 0)) (pf K (pv 0)))))
      (pss_one (ps_ret (pe_ifExp (pt_val (pv 2)) (pe_gc rfl g_LOST) (pe_gc rfl g_MISSED))))), ?_⟩
    refine q_asg (v := .bl (s.wished y)) ?_ fun H1 e => ?_
    · cases y with
      | every => exact ev_if (et_eqs (ev_var rfl) ev_c (c := true) (by decide +kernel)) (fun _ => ev_wishN T S (ev_var rfl)) fun h => by cases h
      | changed => exact ev_if (et_eqs (ev_var rfl) ev_c (c := false) (by decide +kernel)) (fun h => by cases h) fun _ => ev_nev (ev_here T S (ev_var rfl)) (ev_before T S (ev_var rfl))
    · refine s_ret (v := .str (fltS (s.word y))) (ev_if (b := s.wished y) (et_B (ev_var rfl)) (fun hn => ?_) (fun hn => ?_)) fun H2 e2 => k H2 (e.trans e2)
      · refine ev_is ev_c ?_
        show V.str "lost" = V.str (fltS (if s.wished y = true then .lost else .missed))
        rw [if_pos hn]
        rfl
      · refine ev_is ev_c ?_
        show V.str "missed" = V.str (fltS (if s.wished y = true then .lost else .missed))
        rw [if_neg (by rw [hn]; decide)]
        rfl

/-! ### carried -/
def spCarried (K : PySem.W.Frag) : Sp := fun vs H Q _ => ∃ p s r notes rows a, vs = [.ref p, .ref r, .str (ansS a)] ∧ StAt K H p s ∧ RlAt K H r notes rows ∧ RetP (isSt K (s.carried rows a)) H Q
theorem ev_rowfor {σ : L2.St} {H : Hp} {ta tb tc : TE} {p r : Addr} {s : St} {notes : List Str} {rows : List Row} {a : Bool} {E : XK} (T : Txt K mg) (S : StAt K H p s) (R : RlAt K H r notes rows) (ha : Ev ta σ H (.ref p)) (hb : Ev tb σ H (.ref r)) (hc : Ev tc σ H (.str (ansS a))) :
    Ev (tMeth (aState K) "row_for" (spRowFor K) [] E ta (tCons tb (tCons tc tNil))) σ H (.int (rowIx s a rows 0)) := by
  obtain ⟨dx, w, h1, h2⟩ := S.ex
  exact ev_meth ha h1 rfl (ea_cons hb (ea_cons hc ea_nil)) fun H1 e Q k E => ⟨p, s, r, notes, rows, a, rfl, S.x e, R.x e, fun H2 e2 => k H2 e2⟩
theorem met_State_carried (T : Txt K mg) : Met P w K mg base 4 (aState K) "carried" (spCarried K) [] := by
  obtain ⟨fd, F⟩ := T.f_State_carried
  refine metD T.cl_State T.m_State_carried F (F.bindsN fun _ _ _ _ _ _ us hl => match us, hl with | [_, _, _], _ => rfl) sc_State_carried (fun vs H Q E h => ?_) (fun cdv A outer s H vs Q E hr h => ?_)
  · obtain ⟨p, s, r, notes, rows, a, rfl, _⟩ := h
    rfl
  · obtain ⟨p, s, r, notes, rows, a, rfl, S, R, k⟩ := h
    have g_KEEP := T.c_KEEP
    refine ⟨_, (pss_cons (ps_set (i := 3) sc_State_carried.nd rfl (Or.inl rfl) (pe_mt (met_State_row_for T) hr (by decide) (pv 0) (pa_cons (pv 1) (pa_cons (pv 2) pa_nil))))
      (pss_cons (ps_set (i := 4) sc_State_carried.nd rfl (Or.inl rfl) (pe_ifExp (ptc op_lt (pv 3) pe_int) (pe_gc rfl g_KEEP) (pix (kIxT K) (pix (kIxT K) (pf K (pv 1)) (pv 3)) pe_int)))
      (pss_cons (ps_par (i := 5) (j := 6) (by rfl) sc_State_carried.nd rfl rfl (by decide) rfl rfl (pa_cons (pf K (pv 0)) (pa_cons (pf K (pv 0)) pa_nil)) (by rfl))
      (pss_cons (ps_if (ptc op_eq (pv 4) pe_str)
        (pss_one (ps_par (i := 5) (j := 6) (by rfl) sc_State_carried.nd rfl rfl (by decide) rfl rfl (pa_cons (pf K (pv 0)) (pa_cons pe_bl pa_nil)) (by rfl)))
        (pss_one (ps_if (ptc op_eq (pv 4) pe_str)
          (pss_one (ps_set (i := 5) sc_State_carried.nd rfl (Or.inl rfl) pe_non))
          (pss_one (ps_if (ptc op_eq (pv 4) pe_str)
            (pss_one (ps_set (i := 6) sc_State_carried.nd rfl (Or.inl rfl) pe_bl))
            pss_nil)))))
      (pss_one (ps_ret (pe_mk (mak_State T) hr (by decide) rfl (pa_cons (pf K (pv 0)) (pa_cons (pv 5) (pa_cons (pf K (pv 0)) (pa_cons (pf K (pv 0)) (pa_cons (pv 6) pa_nil)))))))))))), ?_⟩
    obtain ⟨dxr, n, t, hR, _, hT⟩ := R.ex
    obtain ⟨b, xs, rfl, hx, hd⟩ := dp_tup hT
    refine q_asg (ev_rowfor T S R (ev_var rfl) (ev_var rfl) (ev_var rfl)) fun H1 e1 => ?_
    refine q_asg (v := .str (actS (actOf s a rows))) ?_ fun H2 e2 => ?_
    · rcases rowIx_at s a rows 0 with ⟨h1, h2⟩ | ⟨i, row, h1, h2, h3⟩
      · exact ev_if (et_lt0 (ev_var rfl) (b := true) (by rw [h1]; decide)) (fun _ => by rw [h2]; exact ev_c) fun h => by cases h
      · rw [Nat.zero_add] at h1
        refine ev_if (et_lt0 (ev_var rfl) (b := false) (by rw [h1]; exact decide_eq_false (by omega))) (fun h => by cases h) fun _ => ?_
        obtain ⟨y, hy, hdy⟩ := dps_at (i := i) (d := rowD row) hd (by rw [List.getElem?_map, h2]; rfl)
        obtain ⟨c, zs, rfl, hc, hcd⟩ := dp_tup hdy
        cases hcd with
        | cons q1 q2 => cases q2 with
          | cons q3 q4 =>
            cases q4
            cases q3
            rw [h3]
            refine ev_op (ev_op (ev_table T (e1 _ _ hR) (ev_var rfl)) (ev_var rfl) (rv_ixT (ex_t e1 hx) ?_)) ev_c (rv_ixT (ex_t e1 hc) rfl)
            rw [h1]
            exact atI_nat hy
    have e := e1.trans e2
    refine q_par (ea_cons (ev_here T (S.x e) (ev_var rfl)) (ea_cons (ev_mine T (S.x e) (ev_var rfl)) ea_nil)) fun H3 e3 => ?_
    have e' := e.trans e3
    have fin : ∀ {x1 x2 : Option V} {own : Val} {m : Bool} {H4 : Hp}, Ex H H4 → s.carried rows a = ⟨s.up, own, s.up, s.wish, m⟩ → EvP (tMake (aState K) (spStInit K) [] E0 (tCons (tFld K (tVar 0) "upper") (tCons (tVar 5) (tCons (tFld K (tVar 0) "upper") (tCons (tFld K (tVar 0) "wish") (tCons (tVar 6) tNil)))))) [some (.ref p), some (.ref r), some (.str (ansS a)), x1, x2, some (vo own), some (.bl m)] H4 (isSt K (s.carried rows a)) := fun {x1 x2 own m H4} e4 ec => by
      rw [ec]
      obtain ⟨dx, wa, h1, h2⟩ := (S.x e4).ex
      exact ep_State fun H5 e5 Q q => (ea_cons (ev_up T (S.x e4) (ev_var rfl)) (ea_cons (ev_var rfl) (ea_cons (ev_up T (S.x e4) (ev_var rfl)) (ea_cons (ev_wish T h1 (ev_var rfl)) (ea_cons (ev_var rfl) ea_nil))))) H5 e5 _ fun H6 e6 => q _ H6 e6 ⟨wa, rfl, ex_t (e5.trans e6) h2⟩
    have ec : s.carried rows a = s.acted (actOf s a rows) := rfl
    cases hA : actOf s a rows with
    | take =>
      rw [hA] at ec
      refine q_if (et_eqs (ev_var rfl) ev_c (c := true) (by decide +kernel)) (fun _ H4 e4 => ?_) fun h => by cases h
      refine s_par (ea_cons (ev_up T (S.x (e'.trans e4)) (ev_var rfl)) (ea_cons ev_c ea_nil)) fun H5 e5 => ?_
      exact sp_ret (fin ((e'.trans e4).trans e5) ec) fun v H6 e6 hv => k v H6 (((e'.trans e4).trans e5).trans e6) hv
    | keep =>
      rw [hA] at ec
      refine q_if (et_eqs (ev_var rfl) ev_c (c := false) (by decide +kernel)) (fun h => by cases h) fun _ H4 e4 => ?_
      refine s_if (et_eqs (ev_var rfl) ev_c (c := false) (by decide +kernel)) (fun h => by cases h) fun _ H5 e5 => ?_
      refine s_when (et_eqs (ev_var rfl) ev_c (c := false) (by decide +kernel)) (fun h => by cases h) fun _ H6 e6 => ?_
      exact sp_ret (fin (((e'.trans e4).trans e5).trans e6) ec) fun v H7 e7 hv => k v H7 ((((e'.trans e4).trans e5).trans e6).trans e7) hv
    | drop =>
      rw [hA] at ec
      refine q_if (et_eqs (ev_var rfl) ev_c (c := false) (by decide +kernel)) (fun h => by cases h) fun _ H4 e4 => ?_
      refine s_if (et_eqs (ev_var rfl) ev_c (c := true) (by decide +kernel)) (fun _ H5 e5 => ?_) fun h => by cases h
      refine s_asg ev_c fun H6 e6 => ?_
      exact sp_ret (fin (own := none) (((e'.trans e4).trans e5).trans e6) ec) fun v H7 e7 hv => k v H7 ((((e'.trans e4).trans e5).trans e6).trans e7) hv
    | claim =>
      rw [hA] at ec
      refine q_if (et_eqs (ev_var rfl) ev_c (c := false) (by decide +kernel)) (fun h => by cases h) fun _ H4 e4 => ?_
      refine s_if (et_eqs (ev_var rfl) ev_c (c := false) (by decide +kernel)) (fun h => by cases h) fun _ H5 e5 => ?_
      refine s_when (et_eqs (ev_var rfl) ev_c (c := true) (by decide +kernel)) (fun _ H6 e6 => ?_) fun h => by cases h
      refine s_asg ev_c fun H7 e7 => ?_
      exact sp_ret (fin ((((e'.trans e4).trans e5).trans e6).trans e7) ec) fun v H8 e8 hv => k v H8 (((((e'.trans e4).trans e5).trans e6).trans e7).trans e8) hv
end
end Ci

set_option Elab.async false
set_option linter.all false
set_option maxRecDepth 100000
set_option maxHeartbeats 4000000
/-! The methods of State (4), first_state, happened. -/
namespace Ci
open PySem PySem.Spec PyProof.Rows L2 Evl
open C8 (Cal Met Mak pe_c pe_mk pe_mt pe_mt0 pe_gc)
section
variable {P : Program} {w : World} {K : PySem.W.Frag} {mg : Str → Option Value} {base : Heap}
section
variable {σ : L2.St} {H : Hp} {ta tb tc : TE} {p q : Addr} {s s2 : St} {y : Way} {E : XK}
theorem ev_due (T : Txt K mg) (S : StAt K H p s) (ha : Ev ta σ H (.ref p)) (hb : Ev tb σ H (.str (wayS y))) : Ev (tMeth (aState K) "due" (spDue K) [] E ta (tCons tb tNil)) σ H (vo (s.due y)) := by
  obtain ⟨dx, w, h1, h2⟩ := S.ex
  exact ev_meth ha h1 rfl (ea_cons hb ea_nil) fun H1 e Q k E => ⟨p, s, y, rfl, S.x e, fun H2 e2 => k H2 e2⟩
theorem ev_word (T : Txt K mg) (S : StAt K H p s) (ha : Ev ta σ H (.ref p)) (hb : Ev tb σ H (.str (wayS y))) : Ev (tMeth (aState K) "word" (spWord K) [] E ta (tCons tb tNil)) σ H (.str (fltS (s.word y))) := by
  obtain ⟨dx, w, h1, h2⟩ := S.ex
  exact ev_meth ha h1 rfl (ea_cons hb ea_nil) fun H1 e Q k E => ⟨p, s, y, rfl, S.x e, fun H2 e2 => k H2 e2⟩
end
/-! ### faults_of -/
/-- (way, word) as data -/
def wfS (x : Way × Flt) : List Str := [wayS x.1, fltS x.2]
def isD (K : PySem.W.Frag) (d : PyData) : Pr := fun v H => Dp K H v d
theorem stb_isD (K : PySem.W.Frag) {d : PyData} (n : noL d = true) : StbT (isD K d) := fun v H1 H2 e h => dpT e d v n h
def spFaultsOf (K : PySem.W.Frag) : Sp := fun vs H Q _ => ∃ p s q s2, vs = [.ref p, .ref q] ∧ StAt K H p s ∧ StAt K H q s2 ∧ RetP (LsP (fun x => isD K (strsD (wfS x))) (s.faults s2)) H Q
theorem met_State_faults_of (T : Txt K mg) : Met P w K mg base 2 (aState K) "faults_of" (spFaultsOf K) [] := by
  obtain ⟨fd, F⟩ := T.f_State_faults_of
  refine metD T.cl_State T.m_State_faults_of F (F.bindsN fun _ _ _ _ _ _ us hl => match us, hl with | [_, _], _ => rfl) sc_State_faults_of (fun vs H Q E h => ?_) (fun cdv A outer s H vs Q E hr h => ?_)
  · obtain ⟨p, s, q, s2, rfl, _⟩ := h
    rfl
  · obtain ⟨p, s, q, s2, rfl, S, S2, k⟩ := h
    obtain ⟨wa, g_WAYS, hW⟩ := T.c_WAYS
    refine ⟨_, (pss_one (ps_ret (pe_lcT (own := [("way", 2)]) (by rfl) sc_State_faults_of.nd (pi_tup (pe_gc rfl g_WAYS)) (blkOk_by (own := [("way", 2)]) (N := n_State_faults_of) (sc := defScope s_State_faults_of) (by decide +kernel)) (fun _ _ _ _ _ => (pg_name (i := 2) sc_State_faults_of.nd rfl (Or.inl rfl))) (fun _ _ _ _ _ => (ptc op_ne (pf K (pv 1)) (pe_mt (met_State_due T) hr (by decide) (pv 0) (pa_cons (pv 2) pa_nil)))) (fun _ _ _ _ _ => (pe_tup (pa_cons (pv 2) (pa_cons (pe_mt (met_State_word T) hr (by decide) (pv 0) (pa_cons (pv 2) pa_nil)) pa_nil))))))), ?_⟩
    have hx : ∀ H, SqT K H wa [.str "changed", .str "every"] := fun H => by
      obtain ⟨a, e, h⟩ := dp_strs (ss := ["changed", "every"]) (hW H)
      cases e
      exact h
    refine sp_ret (ep_comp (R := fun x => isD K (strsD (wfS x))) [Way.changed, Way.every] (fun y => !decide (s2.here = s.due y)) (fun y => (y, s.word y)) (fun y v _ => v = .str (wayS y)) (fun y σ2 _ => σ2 = [some (.ref p), some (.ref q), some (.str (wayS y))]) (it_tup ev_c (hx H) (.cons (fun _ _ => rfl) (.cons (fun _ _ => rfl) .nil))) ?_ ?_ ?_ ?_ (by decide)) k
    · rintro y x H1 _ _ rfl Kt kt
      exact kt _ rfl rfl
    · rintro y σ2 H1 _ e rfl
      exact et_test (ev_nev (ev_here T (S2.x e) (ev_var rfl)) (ev_due T (S.x e) (ev_var rfl) (ev_var rfl)))
    · rintro y σ2 H1 _ e rfl _
      refine ep_imp (ep_tup (K := K) (ea_cons (ev_var rfl) (ea_cons (ev_word T (S.x e) (ev_var rfl) (ev_var rfl)) ea_nil)) (by show 2 ≤ 100000; decide)) fun v H2 _ ⟨a, e2, h⟩ => ?_
      subst e2
      exact .tup h (.cons (.str _) (.cons (.str _) .nil))
    · exact fun x => stb_isD K (noL_strs _)

/-! ### edited, put_back, changed, parts, first_state -/
def spEdited (K : PySem.W.Frag) : Sp := fun vs H Q _ => ∃ p s v, vs = [.ref p, vo v] ∧ StAt K H p s ∧ RetP (isSt K (s.edited v)) H Q
theorem met_State_edited (T : Txt K mg) : Met P w K mg base 3 (aState K) "edited" (spEdited K) [] := by
  obtain ⟨fd, F⟩ := T.f_State_edited
  refine metD T.cl_State T.m_State_edited F (F.bindsN fun _ _ _ _ _ _ us hl => match us, hl with | [_, _], _ => rfl) sc_State_edited (fun vs H Q E h => ?_) (fun cdv A outer s H vs Q E hr h => ?_)
  · obtain ⟨p, s, v, rfl, _⟩ := h
    rfl
  · obtain ⟨p, s, v, rfl, S, k⟩ := h
    refine ⟨_, (pss_one (ps_ret (pe_mk (mak_State T) hr (by decide) rfl (pa_cons (pf K (pv 0)) (pa_cons (pv 1) (pa_cons (pf K (pv 0)) (pa_cons (pe_tup (pa_cons (pv 1) pa_nil)) (pa_cons pe_bl pa_nil)))))))), ?_⟩
    refine sp_ret (ep_State (a := s.up) (b := v) (c := s.before) (wi := some v) (m := true) fun H1 e1 Q q => ?_) k
    refine (eas_v (ev_up T S (ev_var rfl)) (eas_v (ev_var rfl) (eas_v (ev_before T S (ev_var rfl)) (eas_cons (ep_tup (K := K) (vs := [vo v]) (ea_cons (ev_var rfl) ea_nil) (by show 1 ≤ 100000; decide)) (stb_TpV K _).s (eas_v ev_c eas_nil))))) H1 e1 _ fun vs H2 e2 ⟨r1, h1, r2, h2, r3, h3, v4, r4, h4, ⟨wa, h5, h6⟩, r5, h7, h8⟩ => ?_
    subst h1 h2 h3 h4 h5 h7 h8
    exact q _ H2 e2 ⟨wa, rfl, h6⟩
def spPutBack (K : PySem.W.Frag) : Sp := fun vs H Q _ => ∃ p s, vs = [.ref p] ∧ StAt K H p s ∧ RetP (isSt K s.putBack) H Q
theorem met_State_put_back (T : Txt K mg) : Met P w K mg base 3 (aState K) "put_back" (spPutBack K) [] := by
  obtain ⟨fd, F⟩ := T.f_State_put_back
  refine metD T.cl_State T.m_State_put_back F (F.bindsN fun _ _ _ _ _ _ us hl => match us, hl with | [_], _ => rfl) sc_State_put_back (fun vs H Q E h => ?_) (fun cdv A outer s H vs Q E hr h => ?_)
  · obtain ⟨p, s, rfl, _⟩ := h
    rfl
  · obtain ⟨p, s, rfl, S, k⟩ := h
    refine ⟨_, (pss_one (ps_ret (pe_mk (mak_State T) hr (by decide) rfl (pa_cons (pf K (pv 0)) (pa_cons (pf K (pv 0)) (pa_cons (pf K (pv 0)) (pa_cons (pe_tup pa_nil) (pa_cons pe_bl pa_nil)))))))), ?_⟩
    refine sp_ret (ep_State (a := s.up) (b := s.up) (c := s.up) (wi := none) (m := false) fun H1 e1 Q q => ?_) k
    refine (eas_v (ev_up T S (ev_var rfl)) (eas_v (ev_up T S (ev_var rfl)) (eas_v (ev_up T S (ev_var rfl)) (eas_cons (ep_tup (K := K) (vs := []) ea_nil (by decide)) (stb_TpV K _).s (eas_v ev_c eas_nil))))) H1 e1 _ fun vs H2 e2 ⟨r1, h1, r2, h2, r3, h3, v4, r4, h4, ⟨wa, h5, h6⟩, r5, h7, h8⟩ => ?_
    subst h1 h2 h3 h4 h5 h7 h8
    exact q _ H2 e2 ⟨wa, rfl, h6⟩
def spChanged (K : PySem.W.Frag) : Sp := fun vs H Q _ => ∃ p s v, vs = [.ref p, vo v] ∧ StAt K H p s ∧ RetP (isSt K (s.changed v)) H Q
theorem met_State_changed (T : Txt K mg) : Met P w K mg base 3 (aState K) "changed" (spChanged K) [] := by
  obtain ⟨fd, F⟩ := T.f_State_changed
  refine metD T.cl_State T.m_State_changed F (F.bindsN fun _ _ _ _ _ _ us hl => match us, hl with | [_, _], _ => rfl) sc_State_changed (fun vs H Q E h => ?_) (fun cdv A outer s H vs Q E hr h => ?_)
  · obtain ⟨p, s, v, rfl, _⟩ := h
    rfl
  · obtain ⟨p, s, v, rfl, S, k⟩ := h
    refine ⟨_, (pss_one (ps_ret (pe_mk (mak_State T) hr (by decide) rfl (pa_cons (pv 1) (pa_cons (pf K (pv 0)) (pa_cons (pf K (pv 0)) (pa_cons (pf K (pv 0)) (pa_cons (pf K (pv 0)) pa_nil)))))))), ?_⟩
    obtain ⟨dx, wa, h1, h2⟩ := id S.ex
    exact sp_ret (ep_State (a := v) (b := s.here) (c := s.before) (wi := s.wish) (m := s.mine) fun H1 e1 Q q => (ea_cons (ev_var rfl) (ea_cons (ev_here T S (ev_var rfl)) (ea_cons (ev_before T S (ev_var rfl)) (ea_cons (ev_wish T h1 (ev_var rfl)) (ea_cons (ev_mine T S (ev_var rfl)) ea_nil))))) H1 e1 _ fun H2 e2 => q _ H2 e2 ⟨wa, rfl, ex_t (e1.trans e2) h2⟩) k
def spParts (K : PySem.W.Frag) : Sp := fun vs H Q _ => ∃ p s, vs = [.ref p] ∧ StAt K H p s ∧ RetP (TpV K (s.parts.map vo)) H Q
theorem parts_eq (s : St) : s.parts.map vo = vo s.up :: vo s.here :: vo s.before :: (wl s.wish ++ []) := by
  unfold St.parts
  rw [List.append_nil]
  cases s.wish <;> rfl
theorem met_State_parts (T : Txt K mg) : Met P w K mg base 1 (aState K) "parts" (spParts K) [] := by
  obtain ⟨fd, F⟩ := T.f_State_parts
  refine metD T.cl_State T.m_State_parts F (F.bindsN fun _ _ _ _ _ _ us hl => match us, hl with | [_], _ => rfl) sc_State_parts (fun vs H Q E h => ?_) (fun cdv A outer s H vs Q E hr h => ?_)
  · obtain ⟨p, s, rfl, _⟩ := h
    rfl
  · obtain ⟨p, s, rfl, S, k⟩ := h
    refine ⟨_, (pss_one (ps_ret (pe_tup (pa_cons (pf K (pv 0)) (pa_cons (pf K (pv 0)) (pa_cons (pf K (pv 0)) (kStar K (pf K (pv 0)) pa_nil))))))), ?_⟩
    obtain ⟨dx, wa, h1, h2⟩ := id S.ex
    refine sp_ret (ep_tup (K := K) (ea_cons (ev_up T S (ev_var rfl)) (ea_cons (ev_here T S (ev_var rfl)) (ea_cons (ev_before T S (ev_var rfl)) (ea_star (ev_wish T h1 (ev_var rfl)) h2 ea_nil)))) ?_) fun v H1 e h => k v H1 e ?_
    · cases s.wish with
      | none => show 3 ≤ 100000; decide
      | some v => show 4 ≤ 100000; decide
    · rw [parts_eq]
      exact h
def spFirst (K : PySem.W.Frag) : Sp := fun vs H Q _ => ∃ v, vs = [vo v] ∧ RetP (isSt K (St.first v)) H Q
theorem cal_first_state (T : Txt K mg) : Cal P w K mg base 3 "first_state" (spFirst K) [] := by
  obtain ⟨fd, F⟩ := T.f_first_state
  refine calD F T.g_first_state (F.bindsN fun _ _ _ _ _ _ us hl => match us, hl with | [_], _ => rfl) sc_first_state (fun vs H Q E h => ?_) (fun cdv A outer s H vs Q E hr h => ?_)
  · obtain ⟨v, rfl, _⟩ := h
    rfl
  · obtain ⟨v, rfl, k⟩ := h
    refine ⟨_, (pss_one (ps_ret (pe_mk (mak_State T) hr (by decide) rfl (pa_cons (pv 0) (pa_cons (pv 0) (pa_cons (pv 0) (pa_cons (pe_tup pa_nil) (pa_cons pe_bl pa_nil)))))))), ?_⟩
    refine sp_ret (ep_State (a := v) (b := v) (c := v) (wi := none) (m := false) fun H1 e1 Q q => ?_) k
    refine (eas_v (ev_var rfl) (eas_v (ev_var rfl) (eas_v (ev_var rfl) (eas_cons (ep_tup (K := K) (vs := []) ea_nil (by decide)) (stb_TpV K _).s (eas_v ev_c eas_nil))))) H1 e1 _ fun vs H2 e2 ⟨r1, h1, r2, h2, r3, h3, v4, r4, h4, ⟨wa, h5, h6⟩, r5, h7, h8⟩ => ?_
    subst h1 h2 h3 h4 h5 h7 h8
    exact q _ H2 e2 ⟨wa, rfl, h6⟩

/-! ### happened -/
def spHappened (K : PySem.W.Frag) : Sp := fun vs H Q _ => ∃ p s r notes rows v e, vs = [.ref p, .ref r, v] ∧ StAt K H p s ∧ RlAt K H r notes rows ∧ Dp K H v (evD e) ∧ e.ok = true ∧ RetP (isSt K (happened s rows e)) H Q
section
variable {σ : L2.St} {H : Hp} {ta tb tc : TE} {p r : Addr} {s : St} {v : Val} {E : XK} {notes : List Str} {rows : List Row} {a : Bool}
theorem ep_carried (S : StAt K H p s) (R : RlAt K H r notes rows) (ha : Ev ta σ H (.ref p)) (hb : Ev tb σ H (.ref r)) (hc : Ev tc σ H (.str (ansS a))) : EvP (tMeth (aState K) "carried" (spCarried K) [] E ta (tCons tb (tCons tc tNil))) σ H (isSt K (s.carried rows a)) := by
  obtain ⟨dx, w, h1, h2⟩ := S.ex
  exact ep_meth ha h1 rfl (ea_cons hb (ea_cons hc ea_nil)) fun H1 e Q k E => ⟨p, s, r, notes, rows, a, rfl, S.x e, R.x e, k⟩
theorem ep_edited (S : StAt K H p s) (ha : Ev ta σ H (.ref p)) (hb : Ev tb σ H (vo v)) : EvP (tMeth (aState K) "edited" (spEdited K) [] E ta (tCons tb tNil)) σ H (isSt K (s.edited v)) := by
  obtain ⟨dx, w, h1, h2⟩ := S.ex
  exact ep_meth ha h1 rfl (ea_cons hb ea_nil) fun H1 e Q k E => ⟨p, s, v, rfl, S.x e, k⟩
theorem ep_changed (S : StAt K H p s) (ha : Ev ta σ H (.ref p)) (hb : Ev tb σ H (vo v)) : EvP (tMeth (aState K) "changed" (spChanged K) [] E ta (tCons tb tNil)) σ H (isSt K (s.changed v)) := by
  obtain ⟨dx, w, h1, h2⟩ := S.ex
  exact ep_meth ha h1 rfl (ea_cons hb ea_nil) fun H1 e Q k E => ⟨p, s, v, rfl, S.x e, k⟩
theorem ep_putback (S : StAt K H p s) (ha : Ev ta σ H (.ref p)) : EvP (tMeth (aState K) "put_back" (spPutBack K) [] E ta tNil) σ H (isSt K s.putBack) := by
  obtain ⟨dx, w, h1, h2⟩ := S.ex
  exact ep_meth ha h1 rfl ea_nil fun H1 e Q k E => ⟨p, s, rfl, S.x e, k⟩
theorem ev_lenT {K : PySem.W.Frag} {x : Addr} {xs : List V} (ha : Ev ta σ H (.ref x)) (h : SqT K H x xs) : Ev (tCB (rLn K) (tCons ta tNil)) σ H (.int (xs.length : Int)) := fun H1 e Q q =>
  ha H1 e _ fun H2 e2 => ⟨x, xs, rfl, Or.inr (ex_t (e.trans e2) h), q H2 e2⟩
theorem ev_eqi {i j : Int} (ha : Ev ta σ H (.int i)) (hb : Ev tb σ H (.int j)) {c : Bool} (hc : decide (i = j) = c) : Ev (tOp rEq ta tb) σ H (.bl c) := by
  subst hc
  refine ev_is (ev_op ha hb (rv_eq (show scal (.int i) (.int j) = true from rfl))) (congrArg V.bl ?_)
  rw [dec_int, Bool.beq_eq_decide_eq]
end
theorem cal_happened (T : Txt K mg) : Cal P w K mg base 5 "happened" (spHappened K) [] := by
  obtain ⟨fd, F⟩ := T.f_happened
  refine calD F T.g_happened (F.bindsN fun _ _ _ _ _ _ us hl => match us, hl with | [_, _, _], _ => rfl) sc_happened (fun vs H Q E h => ?_) (fun cdv A outer s H vs Q E hr h => ?_)
  · obtain ⟨p, s, r, notes, rows, v, e, rfl, _⟩ := h
    rfl
  · obtain ⟨p, s, r, notes, rows, v, e, rfl, S, R, D, ok, k⟩ := h
    refine ⟨_, (pss_cons (ps_set (i := 3) sc_happened.nd rfl (Or.inl rfl) (pix (kIxT K) (pv 2) pe_int))
      (pss_cons (ps_if (ptc op_eq (pv 3) pe_str)
        (pss_one (ps_ret (pe_mt (met_State_carried T) hr (by decide) (pv 0) (pa_cons (pv 1) (pa_cons (pix (kIxT K) (pv 2) pe_int) pa_nil)))))
        pss_nil)
      (pss_cons (ps_if (ptc op_eq (pv 3) pe_str)
        (pss_one (ps_ret (pe_mt0 (met_State_put_back T) hr (by decide) (pv 0))))
        pss_nil)
      (pss_cons (ps_set (i := 4) sc_happened.nd rfl (Or.inl rfl) (pe_ifExp (ptc op_eq (pe_callB (kLen K) (by rfl) T.z_len PySem.boot_len (pa_cons (pv 2) pa_nil)) pe_int) (pix (kIxT K) (pv 2) pe_int) pe_non))
      (pss_one (ps_ret (pe_ifExp (ptc (kIn K) (pv 3) (pe_tup (pa_cons pe_str (pa_cons pe_str pa_nil)))) (pe_mt (met_State_changed T) hr (by decide) (pv 0) (pa_cons (pv 4) pa_nil)) (pe_mt (met_State_edited T) hr (by decide) (pv 0) (pa_cons (pv 4) pa_nil))))))))), ?_⟩
    have no2 : ∀ {σ : L2.St} {H' : Hp} {z a b : Str} {c : Bool}, Ev (tVar 3) σ H' (.str z) → inV (.str z) [.str a, .str b] = c → EvT (tTest (tOp (rIn K false) (tVar 3) (tTup (tCons (tC (.str a)) (tCons (tC (.str b)) tNil))))) σ H' c := fun h1 h2 =>
      et_is (et_test (ev_inU h1 (eu_tup (ea_cons ev_c (ea_cons ev_c ea_nil)) (by show 2 ≤ 100000; decide)) rfl rfl)) h2
    cases e with
    | carry a =>
      obtain ⟨x, xs, rfl, hx, hd⟩ := dp_tup D
      cases hd with
      | cons h1 h2 => cases h2 with
        | cons h3 h4 =>
          cases h4
          cases h1
          cases h3
          refine q_asg (ev_op (ev_var rfl) ev_c (rv_ixT hx rfl)) fun H1 e1 => ?_
          refine q_when (et_eqs (ev_var rfl) ev_c (c := true) (by decide +kernel)) (fun _ H2 e2 => ?_) fun h => by cases h
          have e := e1.trans e2
          exact sp_ret (ep_carried (S.x e) (R.x e) (ev_var rfl) (ev_var rfl) (ev_op (ev_var rfl) ev_c (rv_ixT (ex_t e hx) rfl))) fun v H3 e3 hv => k v H3 (e.trans e3) hv
    | plain w =>
      obtain ⟨x, hx⟩ := dp_strs (ss := [wordS w]) D
      obtain ⟨rfl, hx⟩ := hx
      refine q_asg (ev_op (ev_var rfl) ev_c (rv_ixT hx rfl)) fun H1 e1 => ?_
      refine q_when (et_eqs (ev_var rfl) ev_c (c := false) (by cases w <;> decide +kernel)) (fun h => by cases h) fun _ H2 e2 => ?_
      cases w with
      | change => cases ok
      | set => cases ok
      | back =>
        refine q_when (et_eqs (ev_var rfl) ev_c (c := true) (by decide +kernel)) (fun _ H3 e3 => ?_) fun h => by cases h
        have e := (e1.trans e2).trans e3
        exact sp_ret (ep_putback (S.x e) (ev_var rfl)) fun v H3 e3 hv => k v H3 (e.trans e3) hv
      | delete =>
        refine q_when (et_eqs (ev_var rfl) ev_c (c := false) (by decide +kernel)) (fun h => by cases h) fun _ H3 e3 => ?_
        have e := (e1.trans e2).trans e3
        refine q_asg (v := .non) (ev_if (et_test (ev_eqi (ev_lenT (ev_var rfl) (ex_t e hx)) ev_c (c := false) (by rfl))) (fun h => by cases h) fun _ => ev_c) fun H4 e4 => ?_
        refine sp_ret (ep_if (no2 (ev_var rfl) (c := true) (by decide +kernel)) (fun _ => ep_changed (v := none) (S.x (e.trans e4)) (ev_var rfl) (ev_var rfl)) fun h => by cases h) fun v H5 e5 hv => k v H5 ((e.trans e4).trans e5) hv
      | remove =>
        refine q_when (et_eqs (ev_var rfl) ev_c (c := false) (by decide +kernel)) (fun h => by cases h) fun _ H3 e3 => ?_
        have e := (e1.trans e2).trans e3
        refine q_asg (v := .non) (ev_if (et_test (ev_eqi (ev_lenT (ev_var rfl) (ex_t e hx)) ev_c (c := false) (by rfl))) (fun h => by cases h) fun _ => ev_c) fun H4 e4 => ?_
        refine sp_ret (ep_if (no2 (ev_var rfl) (c := false) (by decide +kernel)) (fun h => by cases h) fun _ => ep_edited (v := none) (S.x (e.trans e4)) (ev_var rfl) (ev_var rfl)) fun v H5 e5 hv => k v H5 ((e.trans e4).trans e5) hv
    | val w i =>
      obtain ⟨x, xs, rfl, hx, hd⟩ := dp_tup D
      cases hd with
      | cons h1 h2 => cases h2 with
        | cons h3 h4 =>
          cases h4
          cases h1
          cases h3
          refine q_asg (ev_op (ev_var rfl) ev_c (rv_ixT hx rfl)) fun H1 e1 => ?_
          refine q_when (et_eqs (ev_var rfl) ev_c (c := false) (by cases w <;> decide +kernel)) (fun h => by cases h) fun _ H2 e2 => ?_
          cases w with
          | delete => cases ok
          | remove => cases ok
          | back => cases ok
          | change =>
            refine q_when (et_eqs (ev_var rfl) ev_c (c := false) (by decide +kernel)) (fun h => by cases h) fun _ H3 e3 => ?_
            have e := (e1.trans e2).trans e3
            refine q_asg (v := .int i) (ev_if (et_test (ev_eqi (ev_lenT (ev_var rfl) (ex_t e hx)) ev_c (c := true) (by rfl))) (fun _ => ev_op (ev_var rfl) ev_c (rv_ixT (ex_t e hx) rfl)) fun h => by cases h) fun H4 e4 => ?_
            refine sp_ret (ep_if (no2 (ev_var rfl) (c := true) (by decide +kernel)) (fun _ => ep_changed (v := some i) (S.x (e.trans e4)) (ev_var rfl) (ev_var rfl)) fun h => by cases h) fun v H5 e5 hv => k v H5 ((e.trans e4).trans e5) hv
          | set =>
            refine q_when (et_eqs (ev_var rfl) ev_c (c := false) (by decide +kernel)) (fun h => by cases h) fun _ H3 e3 => ?_
            have e := (e1.trans e2).trans e3
            refine q_asg (v := .int i) (ev_if (et_test (ev_eqi (ev_lenT (ev_var rfl) (ex_t e hx)) ev_c (c := true) (by rfl))) (fun _ => ev_op (ev_var rfl) ev_c (rv_ixT (ex_t e hx) rfl)) fun h => by cases h) fun H4 e4 => ?_
            refine sp_ret (ep_if (no2 (ev_var rfl) (c := false) (by decide +kernel)) (fun h => by cases h) fun _ => ep_edited (v := some i) (S.x (e.trans e4)) (ev_var rfl) (ev_var rfl)) fun v H5 e5 hv => k v H5 ((e.trans e4).trans e5) hv
end
end Ci

set_option Elab.async false
set_option linter.all false
set_option maxRecDepth 100000
/-! len(set(xs)) of a tuple of distinct texts. -/
namespace CiSet
open PySem PySem.Spec PyProof.Rows
theorem take_any_no {ks : List Str} (nd : ks.Nodup) {i : Nat} (hi : i < ks.length) : (ks.take i).any (· == ks.getD i Str.empty) = false := by
  refine List.any_eq_false.mpr fun x hx h => ?_
  have e : ks.getD i Str.empty = ks[i] := by rw [List.getD_eq_getElem?_getD, List.getElem?_eq_getElem hi]; rfl
  have e1 : x = ks[i] := by rw [← e]; exact beq_iff_eq.mp h
  obtain ⟨j, hj, e2⟩ := List.getElem_of_mem hx
  have hji : j < i := by
    rw [List.length_take] at hj
    omega
  have e3 : ks[j]'(Nat.lt_trans hji hi) = ks[i] := by rw [← e1, ← e2, List.getElem_take]
  exact absurd e3 (List.pairwise_iff_getElem.mp nd j i (Nat.lt_trans hji hi) hi hji)
section
variable {pr : Program} {wo : World} {Ar : Around} {Rr : Result → Shared → Prop} {It : Addr} {fq wq : List Addr} {Gq : Array GenState → Array GenState → Prop} {m : Nat} {Pq : Nat → Value → Prop} {Sq : Nat → Shared → Prop}
theorem loopTxt (Wk : WalksS pr wo Ar.in1 It fq wq Gq m Pq Sq) (D : Addr) (off : D ∉ fq) (ks : List Str) (many : ks.length = m) (few : m + 1 < scanBound) (nd : ks.Nodup)
    (each : ∀ j u, Pq j u → ∃ z, u = .str (ks.getD j Str.empty) z) :
    ∀ (left j : Nat) (c : Shared), m - j = left → j ≤ m → Sq j c → c.heap.SetOf (strKind pr wo) D (fun y => (ks.take j).any (· == y)) j →
      (∀ c', Moved (D :: wq) Gq c c' → c'.heap.SetOf (strKind pr wo) D (fun y => (ks.take m).any (· == y)) m → Rr (.ok (.ret .none)) c') →
      codeAny (model pr wo) Ar (.builtin "set.update.loop" ⟨[.ref D, .ref It], []⟩) Rr c := by
  have offw : D ∉ wq := fun q => off (Wk.sub _ q)
  have more : ∀ b ∈ wq, b ∈ D :: wq := fun b q => List.mem_cons_of_mem _ q
  have keep : ∀ {n1 : Nat} {F1 : Str → Bool} {c c' : Shared}, Moved wq Gq c c' → c.heap.SetOf (strKind pr wo) D F1 n1 → c'.heap.SetOf (strKind pr wo) D F1 n1 := by
    rintro n1 F1 c c' mv ⟨o, a1, a2, a3, a4, rest⟩
    exact ⟨o, a1, a2, a3, mv.heap D _ offw a4, rest⟩
  intro left
  induction left with
  | zero =>
    intro j c hk hj hst hD done
    obtain rfl : j = m := by omega
    refine codeAny_builtin PyProof.Rows.F.entry_set_update_loop ?_
    rw [Around.under_plainId PyProof.Rows.F.plain_set_update_loop _]
    show wpAny _ Ar.in1 (pyNext (.ref It) >>= _) _ _ c
    refine wpAny_bind (Wk.done c _ _ hst fun c' mv => ?_)
    show wpAny _ Ar.in1 (ret Value.none) _ _ c'
    exact wpAny_pure (done c' (mv.mono more) (keep mv hD))
  | succ left ih =>
    intro j c hk hj hst hD done
    have lt : j < m := by omega
    refine codeAny_builtin PyProof.Rows.F.entry_set_update_loop ?_
    rw [Around.under_plainId PyProof.Rows.F.plain_set_update_loop _]
    show wpAny _ Ar.in1 (pyNext (.ref It) >>= _) _ _ c
    refine wpAny_bind (Wk.item j c _ _ lt hst fun u c' hP hst' mv => ?_)
    obtain ⟨z, rfl⟩ := each j u hP
    have hD' := keep mv hD
    show wpAny _ Ar.in1 (holding [Value.str (ks.getD j Str.empty) z] (setAdd D (.str (ks.getD j Str.empty) z)) >>= _) _ _ c'
    refine wpAny_bind (wpAny_holding ?_)
    unfold setAdd
    refine wpAny_holding (wpAny_bind ((strKind pr wo).pyHash (k := ks.getD j Str.empty) (strKind_is _ _ _ _) ?_))
    refine wpAny_setAddHashed_of (knd := strKind pr wo) (s := { c' with toks := c'.toks + 1 }) (strKind_is _ _ _ _) rfl hD' (by omega) fun g sb hD2 => ?_
    have hD3 : g.SetOf (strKind pr wo) D (fun y => (ks.take (j + 1)).any (· == y)) (j + 1) := by
      refine SetOf_congr hD2 (fun y => ?_) ?_
      · have e : ks.take (j + 1) = ks.take j ++ [ks.getD j Str.empty] := by
          rw [List.take_add_one, List.getD_eq_getElem?_getD, List.getElem?_eq_getElem (by omega)]
          rfl
        rw [e, List.any_append]
        by_cases q : y = ks.getD j Str.empty
        · subst q
          simp
        · have q2 : (ks.getD j Str.empty == y) = false := beq_eq_false_iff_ne.mpr fun q3 => q q3.symm
          simp only [List.any_cons, List.any_nil, q2, decide_eq_false q, Bool.or_false]
      · have e := take_any_no nd (i := j) (by omega)
        simp only [e]
        rfl
    refine wpAny_pure ⟨plainId_quiet PyProof.Rows.F.plain_set_update_loop _, ih (j + 1) _ (by omega) lt (Wk.frame _ c' _ _ hst' (Nat.le_succ _) fun b hb o e => ?_) hD3 fun c2 mv2 hD4 => ?_⟩
    · rw [sb.2 b (fun q : b = D => off (by rw [← q]; exact hb))]
      exact e
    · refine done c2 (Moved.trans Wk.gtrans ((mv.mono more).then_heap (Nat.le_succ _) fun b o hb e => ?_) mv2) hD4
      rw [sb.2 b (fun q : b = D => hb (by rw [q]; exact List.mem_cons_self))]
      exact e
end
section
variable {pr : Program} {wo : World} {Ar : Around} {Ex : Value → Shared → Prop} {c : Shared}
set_option maxHeartbeats 3200000 in
theorem call_setTxt {l : Addr} {its : Array Value} {ks : List Str} {Q : Value → Shared → Prop} (hd0 : Ar.handled = none) (tup : c.heap.IsTuple l its) (sts : StrsAre its.toList ks) (few : ks.length + 1 < scanBound) (nd : ks.Nodup)
    (go : ∀ (g : Heap) (tk : Nat), g.SetOf (strKind pr wo) c.heap.objs.size (fun y => (ks.take its.size).any (· == y)) its.size → (∀ b o, b < c.heap.objs.size → c.heap.get? b = some o → g.get? b = some o) → Q (.ref c.heap.objs.size) { c with heap := g, toks := tk }) :
    wpAny (model pr wo) Ar (call (.type "set") [.ref l]) Q Ex c := by
  obtain ⟨c1, c2, mr⟩ := PySem.F.called_set.mro; have f1 := PySem.F.called_set.made; have f2 := PySem.F.called_set.sub
  refine wpAny_call (codeAny_of_tree ?_); show wpAny _ _ (callAny (.type "set") _) _ _ _
  refine wpAny_pure ⟨Code.quiet_builtin _ (by decide +kernel), codeAny_builtin PySem.F.entry_type_call ?_⟩; rw [Around.under_plain (weight_type_call_type "set" [.ref l] []) rfl]
  have f3 := PySem.F.called_set.notType; have f4 := PySem.F.called_set.canCreate; have f5 := PySem.F.typeCall_set_1 (.ref l)
  repeat (any_goals (first | assumption | wp_step))
  refine codeAny_mono (code_set_new_1 (.ref l) (E := Ex) (Q₁ := fun ob t => ∃ led : Bool, ob = .ref c.heap.objs.size ∧ t = { c with heap := c.heap.push { cls := .type "set", dict := none, data := .set #[] 0 (.fresh 0 0 led) } }) fun led => ⟨led, rfl, rfl⟩) fun r t hr => ?_
  cases r with
  | error e => exact hr
  | ok fl =>
    cases fl with
    | ret ob =>
      obtain ⟨led, rfl, rfl⟩ := hr
      have hS : (c.heap.push { cls := .type "set", dict := none, data := .set #[] 0 (.fresh 0 0 led) }).get? c.heap.objs.size = some { cls := .type "set", dict := none, data := .set #[] 0 (.fresh 0 0 led) } := Heap.get?_push_size _ rfl
      have hT : Shared.TypeIs { c with heap := c.heap.push { cls := .type "set", dict := none, data := .set #[] 0 (.fresh 0 0 led) } } (.ref c.heap.objs.size) "set" := ⟨_, hS, rfl⟩
      have g1 := PySem.F.called_set.init.lookup; have g2 := PySem.F.called_set.init.bind (.ref c.heap.objs.size)
      repeat (any_goals (first | assumption | wp_step))
      refine codeAny_mono (codeAny_call_builtin (R := wants (fun r t2 => r = .none ∧ ∃ g tk, t2 = { c with heap := g, toks := tk } ∧ g.SetOf (strKind pr wo) c.heap.objs.size (fun y => (ks.take its.size).any (· == y)) its.size ∧
          (∀ b o, b < c.heap.objs.size → c.heap.get? b = some o → g.get? b = some o)) Ex) PySem.F.called_set.init.plain PySem.F.entry_set_init (check_set_init_1 hT ?_)) fun r2 t2 hr2 => ?_
      · obtain ⟨⟨oc, od, oa, os⟩, hol, hcl, nl, hdl⟩ := tup
        simp only at hcl hdl
        subst hcl; subst hdl
        have hol' : (c.heap.push { cls := .type "set", dict := none, data := .set #[] 0 (.fresh 0 0 led) }).get? l = some { cls := .type "tuple", dict := od, data := .seq its nl, slots := os } := Heap.get?_push_of_some _ hol
        have k1 := PySem.F.sub_tuple_set; have k2 := PySem.F.sub_tuple_frozenset
        have k3 : (Value.type "tuple" == Value.type "dict") = false := by decide
        have tup1 : (c.heap.push { cls := .type "set", dict := none, data := .set #[] 0 (.fresh 0 0 led) }).IsTuple l its := ⟨_, hol', rfl, nl, rfl⟩
        unfold Builtin.«set.__init__» noKeywords Builtin.Frozenset.updateFrom
        generalize hPI : pyIter = PI; wp_walk; subst hPI
        refine wpAny_pyIter_tuple tup1 (wpAny_bind (wpAny_runValue ?_))
        have lS : l < c.heap.objs.size := Heap.lt_size hol
        have hd3 : Ar.in1.in1.in1.handled = none := by simp [hd0]
        have apart : l ≠ (c.heap.push { cls := .type "set", dict := none, data := .set #[] 0 (.fresh 0 0 led) }).objs.size := by rw [Heap.size_push]; exact Nat.ne_of_lt (Nat.lt_succ_of_lt lS)
        have offS : c.heap.objs.size ∉ [(c.heap.push { cls := .type "set", dict := none, data := .set #[] 0 (.fresh 0 0 led) }).objs.size, l] := by
          rw [Heap.size_push]
          intro q
          rcases List.mem_cons.mp q with q | q
          · exact absurd q (Nat.ne_of_lt (Nat.lt_succ_self _))
          · exact absurd (List.mem_singleton.mp q) (Nat.ne_of_gt lS)
        have sz : ks.length = its.size := by rw [← StrsAre.len_eq sts, Array.length_toList]
        refine loopTxt ((Walks.tuple hd3 _ l apart its).toS) c.heap.objs.size offS ks sz (by omega) nd (fun i v hv => SS.strs_at sts i v (by rw [Array.getElem?_toList]; exact hv)) (its.size - 0) 0 _ (by omega) (Nat.zero_le _) ⟨⟨_, Heap.get?_push_size _ rfl, rfl, rfl⟩, (tup1.push _)⟩ ?h0 ?hR
        case h0 =>
          exact SetOf_congr ((setObjOf_fresh (knd := strKind pr wo) led).setOf (Heap.get?_push_of_some _ hS) (by unfold scanBound; omega)) (fun _ => rfl) rfl
        case hR =>
          intro t' mv hD
          obtain ⟨g, gg, dd, tk, oo⟩ := t'
          have q1 : gg = c.gens := mv.gens
          have q2 : dd = c.drawn := mv.drawn
          have q3 : oo = c.os := mv.os
          subst q1; subst q2; subst q3
          show wpAny _ _ _ _ _ _
          refine wpAny_pure ?_
          show wpAny _ _ (ret Value.none) _ _ _
          refine wpAny_pure ⟨rfl, g, tk, rfl, hD, fun b o hb e => mv.heap b o (fun q => ?_) (Heap.get?_push_of_some _ (Heap.get?_push_of_some _ e))⟩
          rcases List.mem_cons.mp q with q | q
          · exact absurd q (Nat.ne_of_lt hb)
          · have q4 := List.mem_singleton.mp q
            rw [Heap.size_push] at q4
            exact absurd q4 (Nat.ne_of_lt (Nat.lt_succ_of_lt hb))
      · cases r2 with
        | error e => exact hr2
        | ok fl2 =>
          cases fl2 with
          | ret r =>
            obtain ⟨rfl, g, tk, rfl, hD, kp⟩ := hr2
            repeat (any_goals (first | assumption | wp_step))
            exact go _ _ hD kp
          | _ => exact hr2.elim
    | _ => exact hr.elim
end
end CiSet
namespace Ci
open PySem PySem.Spec PyProof.Rows L2 Evl
def tLenTx (K : PySem.W.Frag) (ta : TE) : TE := fun σ H Q => ta σ H fun x H1 => ∃ l, ∃ ks : List Str, x = .ref l ∧ SqT K H1 l (ks.map V.str) ∧ ks.length ≤ 64 ∧ ks.Nodup ∧ Q (.int ks.length) H1
theorem pe_lenTx (K : PySem.W.Frag) {X : Cx} {a : Expr} {ta : TE} {p p2 q pos : Pos} (hc : X.calm = true) (hg : Gl X "len") (hm : X.mg "len" = none) (hg2 : Gl X "set") (hm2 : X.mg "set" = none) (ha : PE X a ta)
    (na : starEach [a] X.env = (false, eval a X.env) :: starEach [] X.env := by rfl) (hK : X.K = K := by rfl) : PE X (.Call (.Name "len" p) [.Call (.Name "set" p2) [a] [] q] [] pos) (tLenTx K ta) := by
  subst hK
  refine ⟨fun pins s σ H Q I h => Call_ (ld_blt I hg hm boot_len ?_)⟩
  refine callWith_builtin1 (args_cons ?_ rfl) rfl rfl
  refine Call_ (ld_blt I hg2 hm2 boot_set ?_)
  refine callWith_type1 (args_cons (thn (ha.run pins s σ H _ I h) fun v s1 ⟨x, H1, I1, r1, q1⟩ => args_nil ?_) na) na rfl
  obtain ⟨l, ks, rfl, hq, h1, nd, q1⟩ := q1
  cases r1
  obtain ⟨its, r, pl, hz⟩ := I1.tuple hq
  have sz : its.toArray.size = ks.length := by rw [List.size_toArray, ← r.length, List.length_map]
  refine CiSet.call_setTxt (I1.ok.hd hc) pl (by simpa using strsAre_of r) (by unfold scanBound; omega) nd fun g tk hS hk => args_nil ?_
  rw [sz] at hS
  obtain ⟨o, es, ep, t, ho, hex, hd, _, _, _, hf, hn⟩ := hS
  have I2 : Inv X pins σ H1 { s1 with heap := g, toks := tk } := I1.kept fun b o e => hk b o (Heap.lt_size e) e
  refine call_len_set ho hex hd hf (by rw [hn] <;> omega) ⟨.int ks.length, H1, I2.tok _, ⟨_, by rw [hn]⟩, q1⟩
end Ci

set_option Elab.async false
set_option linter.all false
set_option maxRecDepth 100000
set_option maxHeartbeats 4000000
/-! Calls with a keyword; isinstance; words_of. -/
namespace Ci
open PySem PySem.Spec PyProof.Rows L2 Evl
open C8 (Cal Met Mak pe_c pe_mk pe_mt pe_mt0 pe_gc)

/-! ### a def with keyword-only parameters, called with all of them -/
structure Kal (P : Program) (w : World) (K : PySem.W.Frag) (mg : Str → Option Value) (base : Heap) (k : Nat) (x : Str) (sp : Sp) (n : Nat) (ks : List Str) : Prop where
  ex : ∃ (f : Addr) (fd : FuncData) (ps : List Str), FnOk P w K mg base C8.CX0 k f fd ps sp ∧ mg x = some (.ref f) ∧ PySem.W.keepIn K (.ref f) = true ∧ KBn K fd ps n ks (fun us ws => us ++ ws) (fun vs zs => vs ++ zs)
section
variable {P : Program} {w : World} {K : PySem.W.Frag} {mg : Str → Option Value} {base : Heap}
theorem kalD {x : Str} {st : Stmt} {kws : List (Str × V)} {f : Addr} {fd : FuncData} {N ps ks : List Str} {k n : Nat} {sp : Sp} (F : FunD K x x (defArgs st) (defBody st) (defScope st) [] kws f fd) (hm : mg x = some (.ref f))
    (b : ∀ (kV doc pm : Value) (an : Option Addr) (cdv ct : Value) (us ws : List Value), us.length = n → ws.length = ks.length → bindArgs (PySem.W.fnOf x x (defArgs st) (defBody st) (defScope st) .none kV doc pm an cdv ct) ⟨us, ks.zip ws⟩ = pure (ps.zip (us ++ ws)))
    (S : FnScope N ps (defScope st)) (len : ∀ vs H Q E, sp vs H Q E → vs.length = ps.length)
    (hbody : ∀ (cdv : Value) (A : Around) (outer : List Env) (s : Shared) (H : Hp) (vs : List V) (Q : VK) (E : XK), Room k (A.deeper (envOfC x (defScope st) s.heap.objs.size f cdv)) → sp vs H Q E →
      ∃ t, PSs (cxOf C8.CX0 P w K mg base N x (defScope st) f cdv A outer s H E).nox (defBody st) t ∧ t { nx := fun _ H' => Q .non H', rt := Q } (start N vs) H) : Kal P w K mg base (k + 1) x sp n ks := by
  have Fo := F.ok (P := P) (w := w) (mg := mg) (base := base) (CX := C8.CX0) S len fun cdv A outer s H vs Q E hr h => (by
    obtain ⟨t, h1, h2⟩ := hbody cdv A outer s H vs Q E hr h
    exact ⟨t, h1.nox, h2⟩)
  have kp := F.kp
  obtain ⟨oc, od, dV, kV, doc, pm, an, cdv, ct, osl, rfl, lk, hcd, hD, hK⟩ := F.ex
  rcases hD with ⟨_, rfl⟩ | ⟨e, _⟩
  · exact ⟨f, _, ps, Fo, hm, kp, ⟨fun s us ws _ l1 l2 => .of_eq (b kV doc pm an cdv ct us ws l1 l2), fun r1 r2 => r1.append r2⟩⟩
  · exact absurd rfl e
end
section
variable {X : Cx} {k j n : Nat} {x : Str} {ks : List Str} {sp : Sp} {p pos : Pos} {e : Expr} {es : List Expr} {kws : List Keyword} {t tk : TA}
theorem pe_kw (c : Kal X.prog X.w X.K X.mg X.base k x sp n ks) (hr : Room j X.A) (hk : k ≤ j) (hg : Gl X x) (ha : PA X (e :: es) t) (hkw : PK X kws tk) (hall : (backToKw pos (keywordEach kws X.env)).all (·.1.isSome) = true := by rfl) (hks : (backToKw pos (keywordEach kws X.env)).filterMap (·.1) = ks := by rfl)
    (hdb : (x == ("__debug__" : Str)) = false := by decide) (he : starEach (e :: es) X.env = (false, eval e X.env) :: starEach es X.env := by rfl)
    (hpl : ((backTo pos (starEach (e :: es) X.env)).any (·.1) || (backToKw pos (keywordEach kws X.env)).any (·.1.isNone)) = false := by rfl) :
    PE X (.Call (.Name x p) (e :: es) kws pos) (tCallN n ks.length sp (fun vs zs => vs ++ zs) C8.E0 t tk) := by
  obtain ⟨f, fd, ps, F, hm, kp, b⟩ := c.ex
  exact pe_callN F (hr.mono hk) hg hm kp b C8.pass0 ha hkw hall hks hdb he hpl
end
section
variable {K : PySem.W.Frag} {σ : L2.St} {H : Hp} {t tk : TA} {sp : Sp} {vs zs : List V} {E : XK} {R : Pr}
theorem ep_kw (h : EvA t σ H vs) (hz : EvA tk σ H zs) (hs : SpP sp (vs ++ zs) H R) : EvP (tCallN vs.length zs.length sp (fun vs zs => vs ++ zs) E t tk) σ H R := fun H1 e Q q =>
  h H1 e _ fun H2 e2 => hz H2 (e.trans e2) _ fun H3 e3 => ⟨rfl, rfl, hs H3 ((e.trans e2).trans e3) Q (fun v H4 e4 => q v H4 ((e2.trans e3).trans e4)) E⟩
end

theorem kTy {X : Cx} {p : Pos} (n : String) {x : Str} (hg : Gl X x) (hm : X.mg x = none) (hb : bootBuiltins x = some (.type n)) (hn : x ≠ "__name__" := by decide) (hd : (x == ("__debug__" : Str)) = false := by decide) : PE X (.Name x p) (tC (.ty n)) := pe_bltn hg hm hb rfl hn hd
/-! ### isinstance -/
section
variable {K : PySem.W.Frag} {σ : L2.St} {H : Hp} {ta tb : TE} {a : Addr} {xs : List V} {z : Str}
theorem tyx_tup (h : SqT K H a xs) : TyX K H (.ref a) (.type "tuple") := by
  rcases h with (h | ⟨o, h⟩) | ⟨o, its, n, h, c, _⟩
  · exact .base (.tup h)
  · exact .fTuple h
  · exact .kTuple h c
theorem ev_isTup (ha : Ev ta σ H (.ref a)) (hb : Ev tb σ H (.ty "tuple")) (h : SqT K H a xs) : Ev (tCB (rIsi K) (tCons ta (tCons tb tNil))) σ H (.bl true) := fun H1 e1 Q q =>
  ha H1 e1 _ fun H2 e2 => hb H2 (e1.trans e2) _ fun H3 e3 => ⟨_, _, _, _, true, rfl, .ty "tuple", tyx_tup (ex_t ((e1.trans e2).trans e3) h), kit_ty (by decide +kernel), q H3 (e2.trans e3)⟩
theorem ev_isStr (ha : Ev ta σ H (.str z)) (hb : Ev tb σ H (.ty "str")) : Ev (tCB (rIsi K) (tCons ta (tCons tb tNil))) σ H (.bl true) := fun H1 e1 Q q =>
  ha H1 e1 _ fun H2 e2 => hb H2 (e1.trans e2) _ fun H3 e3 => ⟨_, _, _, _, true, rfl, .ty "str", .base (.str z), kit_ty (by decide +kernel), q H3 (e2.trans e3)⟩
theorem pt_valB {r : List V → Hp → VK → Prop} {tt : TA} {b : Bool} (h : Ev (tCB r tt) σ H (.bl b)) : EvT (tB (tCB r tt)) σ H b := et_B h
end

/-! ### words_of -/
section
variable {P : Program} {w : World} {K : PySem.W.Frag} {mg : Str → Option Value} {base : Heap}
def wsD (ws : List Word) : PyData := strsD (ws.map wordS)
def allWords : List Word := [.change, .delete, .set, .remove, .back]
theorem wordS_inj : ∀ {a b : Word}, wordS a = wordS b → a = b := by
  intro a b
  cases a <;> cases b <;> first | (intro _; rfl) | (intro h; exact absurd h (by decide +kernel))
theorem words_nodup {ws : List Word} (h : ws.Nodup) : (ws.map wordS).Nodup := by
  refine List.pairwise_map.mpr (h.imp fun hne e => hne (wordS_inj e))
theorem words_few {ws : List Word} (h : ws.Nodup) : ws.length ≤ 5 := by
  have key : ∀ (l m : List Word), l.Nodup → (∀ x ∈ l, x ∈ m) → l.length ≤ m.length := by
    intro l
    induction l with
    | nil => intro m _ _; exact Nat.zero_le _
    | cons x l ih =>
      intro m nd sub
      have hx := sub x List.mem_cons_self
      have nd2 := List.nodup_cons.mp nd
      have h1 := ih (m.erase x) nd2.2 fun y hy => (List.mem_erase_of_ne (fun e => nd2.1 (by rw [← e]; exact hy))).mpr (sub y (List.mem_cons_of_mem _ hy))
      rw [List.length_erase_of_mem hx] at h1
      have := List.length_pos_of_mem hx
      rw [List.length_cons]
      omega
  exact key ws allWords h fun x _ => by cases x <;> decide
def spWordsOf (K : PySem.W.Frag) : Sp := fun vs H Q _ => ∃ v ws, vs = [v] ∧ ((ws.Nodup ∧ Dp K H v (wsD ws) ∧ RetV v H Q) ∨ (v = .non ∧ ws = allWords ∧ ∀ u, (∀ H1, Dp K H1 u (wsD ws)) → RetV u H Q))
theorem cal_words_of (T : Txt K mg) : Cal P w K mg base 1 "words_of" (spWordsOf K) [] := by
  obtain ⟨fd, F⟩ := T.f_words_of
  refine calD F T.g_words_of (F.bindsN fun _ _ _ _ _ _ us hl => match us, hl with | [_], _ => rfl) sc_words_of (fun vs H Q E h => ?_) (fun cdv A outer s H vs Q E hr h => ?_)
  · obtain ⟨v, ws, rfl, _⟩ := h
    rfl
  · obtain ⟨v, ws, rfl, h⟩ := h
    obtain ⟨ev, g_EVENTS, dE⟩ := T.c_EVENTS
    have hE : ∀ H, SqT K H ev ((["change", "delete", "set", "remove", "back"] : List Str).map V.str) := fun H => by
      obtain ⟨a, e, h⟩ := dp_strs (ss := ["change", "delete", "set", "remove", "back"]) (dE H)
      cases e
      exact h
    refine ⟨_, (pss_cons (ps_if (ptc op_isN (pv 0) pe_non)
        (pss_one (ps_ret (pe_gc rfl g_EVENTS)))
        pss_nil)
      (pss_cons (ps_if (PW.pt (pw_or (pt_not (pt_val (pe_callB (kIsi K) (by rfl) T.z_isinstance (by decide +kernel) (pa_cons (pv 0) (pa_cons (kTy "tuple" rfl T.z_tuple (by decide +kernel)) pa_nil))))) (pw_or1 (pt_not (pt_val (pe_callB (kAll K) (by rfl) T.z_all (by decide +kernel) (pa_cons (pe_lc (own := [("word", 1)]) (by rfl) sc_words_of.nd (pi_tup (pv 0)) (blkOk_by (own := [("word", 1)]) (N := n_words_of) (sc := defScope s_words_of) (by decide +kernel)) (fun _ _ _ _ _ => (pg_name (i := 1) sc_words_of.nd rfl (Or.inl rfl))) (fun _ _ _ _ _ => pts_nil) (fun _ _ _ _ _ => (pe_and (pe_callB (kIsi K) (by rfl) T.z_isinstance (by decide +kernel) (pa_cons (pv 1) (pa_cons (kTy "str" rfl T.z_str (by decide +kernel)) pa_nil))) (pe_one (pec (kIn K) (pv 1) (pe_gc rfl g_EVENTS)))))) pa_nil)))))))
        (pss_one ps_never)
        pss_nil)
      (pss_cons (ps_if (ptc op_lt (pe_lenTx K (by rfl) (by rfl) T.z_len (by rfl) T.z_set (pv 0)) (pe_callB (kLen K) (by rfl) T.z_len PySem.boot_len (pa_cons (pv 0) pa_nil)))
        (pss_one ps_never)
        pss_nil)
      (pss_one (ps_ret (pv 0)))))), ?_⟩
    rcases h with ⟨nd, D, k⟩ | ⟨rfl, rfl, k⟩
    · obtain ⟨x, rfl, hx⟩ := dp_strs D
      refine q_when (b := false) (et_test (ev_op (ev_var rfl) ev_c rv_isN)) (fun h => by cases h) fun _ H1 e1 => ?_
      have inE : ∀ {σ : L2.St} {H' : Hp} {y : Word}, Ev (tVar 1) σ H' (.str (wordS y)) → Ev (tOp (rIn K false) (tVar 1) (tC (.ref ev))) σ H' (.bl true) := fun {σ H' y} h1 =>
        ev_is (ev_op h1 ev_c (rv_isT (hE _) rfl rfl)) (by cases y <;> decide +kernel)
      have allE : ∀ H1, Ex H H1 → Ev (tCB (rAll K) (tCons (tLc (iTup K (tVar 0)) (gName 1) tYes (tAndV (tCB (rIsi K) (tCons (tVar 1) (tCons (tC (.ty "str")) tNil))) (tOp (rIn K false) (tVar 1) (tC (.ref ev)))) [1]) tNil)) [some (.ref x), none] H1 (.bl true) := fun H1 e1 => by
        refine ev_is (ev_allP (bs := (ws.filter fun _ => true).map fun _ => true) (ep_comp ws (fun _ => true) (fun _ => true) (fun y v _ => v = .str (wordS y)) (fun y σ2 _ => σ2 = [some (.ref x), some (.str (wordS y))]) (it_tup (ev_var rfl) (ex_t e1 hx) ?_) ?_ ?_ ?_ ?_ ?_)) (congrArg V.bl ?_)
        · have go : ∀ (l : List Word), Paired (fun v y => ∀ H2, Ex H1 H2 → v = V.str (wordS y)) ((l.map wordS).map V.str) l := fun l => by
            induction l with
            | nil => exact .nil
            | cons y l ih => exact .cons (fun _ _ => rfl) ih
          exact go ws
        · rintro y v H' _ _ rfl Kt kt
          exact kt _ rfl rfl
        · rintro y σ2 H' _ _ _
          exact ev_tYes
        · rintro y σ2 H' _ _ rfl _
          exact ep_v (ev_is (ev_andV (ev_isStr (ev_var rfl) ev_c) fun _ => inE (ev_var rfl)) rfl)
        · exact fun b _ _ _ _ h => h
        · exact Nat.le_trans (words_few nd) (by decide)
        · rw [all_map]
          exact List.all_eq_true.mpr fun _ _ => rfl
      refine q_when (b := false) (et_or (b := false) (a := false) (et_is (et_not (pt_valB (ev_isTup (ev_var rfl) ev_c (ex_t e1 hx)))) rfl) fun _ => et_is (et_not (pt_valB (allE H1 e1))) rfl) (fun h => by cases h) fun _ H2 e2 => ?_
      refine q_when (b := false) ?_ (fun h => by cases h) fun _ H3 e3 => ?_
      · have hx2 := ex_t (e1.trans e2) hx
        have lx : ((ws.map wordS).map V.str).length = (ws.map wordS).length := List.length_map _
        refine et_is (et_test (ev_op (x := .int (ws.map wordS).length) (y := .int (ws.map wordS).length) (fun H4 e4 Q q => (ev_var rfl) H4 e4 _ fun H5 e5 => ⟨x, ws.map wordS, rfl, ex_t (e4.trans e5) hx2, ?_, words_nodup nd, q H5 e5⟩) (ev_is (ev_lenT (ev_var rfl) hx2) (by rw [lx])) rv_I0)) ?_
        · rw [List.length_map]
          exact Nat.le_trans (words_few nd) (by decide)
        · exact decide_eq_false (Int.lt_irrefl _)
      exact s_ret (ev_var rfl) fun H4 e4 => k H4 (((e1.trans e2).trans e3).trans e4)
    · refine q_when (b := true) (et_test (ev_op (ev_var rfl) ev_c rv_isN)) (fun _ H1 e1 => ?_) fun h => by cases h
      exact s_ret ev_c fun H2 e2 => k _ dE H2 (e1.trans e2)
end
end Ci

set_option linter.all false
/-! Spots: their values, their key; what a list of events must hold. Plain Lean. -/
namespace Ci
abbrev Spot := List St
def vals (S : Spot) : List Val := S.flatMap St.parts
def learn (known : List Int) : Val → List Int
  | none => known
  | some i => if i ∈ known then known else known ++ [i]
def learnAll (known : List Int) (vs : List Val) : List Int := vs.foldl learn known
/-- the number of a value among the known ones -/
def numV (known : List Int) : Val → Int
  | none => 0
  | some i => (known.idxOf i : Int) + 1
def nums (known : List Int) : List Val → List Int
  | [] => []
  | v :: r => numV (learn known v) v :: nums (learn known v) r
def tail2 (s : St) : List Int := [if s.wish.isSome then 1 else 0, if s.mine then 1 else 0]
def keyGo (known : List Int) : Spot → List Int
  | [] => []
  | s :: r => nums known s.parts ++ (tail2 s ++ keyGo (learnAll known s.parts) r)
def keyOf (S : Spot) : List Int := keyGo [] S
theorem mem_learn {known : List Int} {v : Val} {i : Int} : i ∈ learn known v ↔ i ∈ known ∨ v = some i := by
  cases v with
  | none => simp [learn]
  | some j =>
    show i ∈ (if j ∈ known then known else known ++ [j]) ↔ _
    split
    · rename_i h
      constructor
      · exact Or.inl
      · rintro (h1 | h1)
        · exact h1
        · cases h1
          exact h
    · rw [List.mem_append, List.mem_singleton]
      constructor
      · rintro (h1 | h1)
        · exact Or.inl h1
        · exact Or.inr (by rw [h1])
      · rintro (h1 | h1)
        · exact Or.inl h1
        · cases h1
          exact Or.inr rfl
theorem mem_learnAll {vs : List Val} : ∀ {known : List Int} {i : Int}, i ∈ learnAll known vs ↔ i ∈ known ∨ some i ∈ vs := by
  induction vs with
  | nil => intro known i; simp [learnAll]
  | cons v vs ih =>
    intro known i
    show i ∈ learnAll (learn known v) vs ↔ _
    rw [ih, mem_learn, List.mem_cons]
    constructor
    · rintro ((h | h) | h)
      · exact Or.inl h
      · exact Or.inr (Or.inl h.symm)
      · exact Or.inr (Or.inr h)
    · rintro (h | h | h)
      · exact Or.inl (Or.inl h)
      · exact Or.inl (Or.inr h.symm)
      · exact Or.inr h
theorem learn_len (known : List Int) (v : Val) : (learn known v).length ≤ known.length + 1 := by
  cases v with
  | none => exact Nat.le_succ _
  | some j =>
    show (if j ∈ known then known else known ++ [j]).length ≤ _
    split
    · exact Nat.le_succ _
    · rw [List.length_append]
      exact Nat.le_refl _
theorem learnAll_len (vs : List Val) : ∀ (known : List Int), (learnAll known vs).length ≤ known.length + vs.length := by
  induction vs with
  | nil => intro known; exact Nat.le_refl _
  | cons v vs ih =>
    intro known
    have h1 := ih (learn known v)
    have h2 := learn_len known v
    rw [List.length_cons]
    show (learnAll (learn known v) vs).length ≤ _
    omega
theorem parts_len (s : St) : s.parts.length ≤ 4 := by
  unfold St.parts
  cases s.wish <;> simp
theorem vals_len (S : Spot) : (vals S).length ≤ 4 * S.length := by
  unfold vals
  induction S with
  | nil => exact Nat.le_refl _
  | cons s S ih =>
    rw [List.flatMap_cons, List.length_append, List.length_cons]
    have := parts_len s
    omega
theorem learnAll_append (known : List Int) (a b : List Val) : learnAll known (a ++ b) = learnAll (learnAll known a) b := List.foldl_append
/-- the events that words allow: any value -/
def Evt.inW (ws : List Word) : Evt → Prop
  | .carry _ => True
  | .val w _ => w ∈ ws ∧ w.valued = true
  | .plain w => w ∈ ws ∧ w.valued = false
structure EvsFor (S : Spot) (ws : List Word) (es : List Evt) : Prop where
  inw : ∀ e ∈ es, e.inW ws
  known : ∀ w ∈ ws, w.valued = true → ∀ i, some i ∈ vals S → Evt.val w i ∈ es
  fresh : ∀ w ∈ ws, w.valued = true → ∃ f, some f ∉ vals S ∧ Evt.val w f ∈ es
  plain : ∀ w ∈ ws, w.valued = false → Evt.plain w ∈ es
structure ValsFor (S : Spot) (l : List Int) : Prop where
  known : ∀ i, some i ∈ vals S → i ∈ l
  fresh : ∃ f ∈ l, some f ∉ vals S
  few : l.length ≤ 9
end Ci

set_option Elab.async false
set_option linter.all false
set_option maxRecDepth 100000
set_option maxHeartbeats 4000000
/-! values_for, events_for, common_key. -/
namespace Ci
open PySem PySem.Spec PyProof.Rows L2 Evl
open C8 (Cal Met Mak pe_c pe_mk pe_mt pe_mt0 pe_gc)

/-! ### dicts of ints -/
def kvL (g : Nat → V) : Nat → List Int → List (Key × V)
  | _, [] => []
  | n, i :: r => (.inl i, g n) :: kvL g (n + 1) r
theorem kvL_len (g : Nat → V) : ∀ (l : List Int) (n : Nat), (kvL g n l).length = l.length
  | [], _ => rfl
  | _ :: l, n => congrArg Nat.succ (kvL_len g l (n + 1))
theorem kvL_keys (g : Nat → V) : ∀ (l : List Int) (n : Nat), (kvL g n l).map (·.1) = l.map Sum.inl
  | [], _ => rfl
  | i :: l, n => congrArg (Sum.inl i :: ·) (kvL_keys g l (n + 1))
theorem kvL_val (g : Nat → V) (i : Int) : ∀ (l : List Int) (n : Nat), valV (kvL g n l) (.inl i : Key) = if i ∈ l then some (g (n + l.idxOf i)) else none
  | [], _ => rfl
  | j :: l, n => by
    by_cases h : j = i
    · subst h
      have e : valV (kvL g n (j :: l)) (.inl j : Key) = some (g n) := by
        show valV ((Sum.inl j, g n) :: kvL g (n + 1) l) _ = _
        unfold valV
        rw [List.find?_cons_of_pos (by exact decide_eq_true rfl)]
        rfl
      rw [e, if_pos List.mem_cons_self, List.idxOf_cons_self]
      rfl
    · have e : valV (kvL g n (j :: l)) (.inl i : Key) = valV (kvL g (n + 1) l) (.inl i : Key) := by
        show valV ((Sum.inl j, g n) :: kvL g (n + 1) l) _ = _
        unfold valV
        rw [List.find?_cons_of_neg (by intro z; exact h (Sum.inl.inj (of_decide_eq_true z)))]
      rw [e, kvL_val g i l (n + 1)]
      by_cases hm : i ∈ l
      · have e2 : (j :: l).idxOf i = l.idxOf i + 1 := by
          rw [List.idxOf_cons, beq_eq_false_iff_ne.mpr h]
          rfl
        rw [if_pos hm, if_pos (List.mem_cons_of_mem _ hm), e2, show n + 1 + l.idxOf i = n + (l.idxOf i + 1) from by omega]
      · rw [if_neg hm, if_neg fun z => ?_]
        rcases List.mem_cons.mp z with z | z
        · exact h z.symm
        · exact hm z
theorem kvL_app (g : Nat → V) (i : Int) : ∀ (l : List Int) (n : Nat), kvL g n (l ++ [i]) = kvL g n l ++ [(.inl i, g (n + l.length))]
  | [], _ => rfl
  | j :: l, n => by
    show (Sum.inl j, g n) :: kvL g (n + 1) (l ++ [i]) = (Sum.inl j, g n) :: (kvL g (n + 1) l ++ _)
    rw [kvL_app g i l (n + 1), List.length_cons, show n + 1 + l.length = n + (l.length + 1) from by omega]
theorem kvL_put (g : Nat → V) {i : Int} {l : List Int} (h : i ∉ l) : putK (kvL g 0 l) (.inl i : Key) (g l.length) = kvL g 0 (l ++ [i]) := by
  rw [putK_new _ (by rw [kvL_val, if_neg h]), kvL_app, Nat.zero_add]
theorem kvL_same (c : V) {i : Int} : ∀ {l : List Int} {n : Nat}, (kvL (fun _ => c) n l).map (fun kv => if kv.1 = (.inl i : Key) then (kv.1, c) else kv) = kvL (fun _ => c) n l
  | [], _ => rfl
  | j :: l, n => by
    show (if (Sum.inl j : Key) = .inl i then ((Sum.inl j : Key), c) else (Sum.inl j, c)) :: _ = (Sum.inl j, c) :: _
    rw [kvL_same c (l := l) (n := n + 1), ite_self]
theorem kvL_learn (c : V) (l : List Int) (i : Int) : putK (kvL (fun _ => c) 0 l) (.inl i : Key) c = kvL (fun _ => c) 0 (learn l (some i)) := by
  show _ = kvL (fun _ => c) 0 (if i ∈ l then l else l ++ [i])
  by_cases h : i ∈ l
  · rw [if_pos h]
    unfold putK
    have e : ((kvL (fun _ => c) 0 l).any fun kv => decide (kv.1 = (.inl i : Key))) = true := by
      refine List.any_eq_true.mpr ?_
      have : (Sum.inl i : Key) ∈ (kvL (fun _ => c) 0 l).map (·.1) := by
        rw [kvL_keys]
        exact List.mem_map.mpr ⟨i, h, rfl⟩
      obtain ⟨kv, h1, h2⟩ := List.mem_map.mp this
      exact ⟨kv, h1, decide_eq_true h2⟩
    rw [if_pos e, kvL_same]
  · rw [if_neg h]
    exact kvL_put (fun _ => c) h

/-! ### spots in the heap -/
def SpAt (K : PySem.W.Frag) (H : Hp) (a : Addr) (S : Spot) : Prop := ∃ xs, SqT K H a xs ∧ Paired (fun x s => isSt K s x H) xs S
def isSpot (K : PySem.W.Frag) (S : Spot) : Pr := fun v H => ∃ a, v = .ref a ∧ SpAt K H a S
section
variable {K : PySem.W.Frag} {H H' : Hp} {a : Addr} {S : Spot}
theorem SpAt.t (h : SpAt K H a S) (e : ExT H H') : SpAt K H' a S := by
  obtain ⟨xs, h1, h2⟩ := h
  exact ⟨xs, sqT e h1, Paired.mapP h2 fun _ _ z => stb_isSt K _ _ _ _ e z⟩
theorem stb_isSpot (K : PySem.W.Frag) (S : Spot) : StbT (isSpot K S) := fun _ _ _ e ⟨a, h, z⟩ => ⟨a, h, z.t e⟩
end
section
variable {K : PySem.W.Frag} {σ : L2.St} {H : Hp} {ta te : TE} {D : Ends} {l : Addr} {xs : List V} {R : Pr}
/-- xs.append(e), xs.extend(e): what e gives is new -/
theorem s_appP (hl : H l = some (.lst xs)) (ha : Ev ta σ H (.ref l)) (h : EvP te σ H R) (hz : xs.length < 100000) (k : ∀ v H1, Ex H H1 → R v H1 → D.nx σ (upd H1 l (.lst (xs ++ [v])))) :
    tDrop (tBM K "list" rAppend ta (tCons te tNil)) D σ H := ha H (Ex.refl H) _ fun H1 e1 =>
  ⟨Or.inl ⟨rfl, xs, sq_of (e1 l _ hl)⟩, h H1 e1 _ fun v H2 e2 r => ⟨l, xs, v, rfl, rfl, e2 l _ (e1 l _ hl), sz_lt hz, k v H2 (e1.trans e2) r⟩⟩
theorem s_extP {β : Type} {Rb : β → Pr} {bs : List β} (hl : H l = some (.lst xs)) (ha : Ev ta σ H (.ref l)) (h : EvP te σ H (LsP Rb bs)) (hz : xs.length + bs.length ≤ 100000) (k : ∀ ys H1, Ex H H1 → Paired (fun y b => Rb b y H1) ys bs → D.nx σ (upd H1 l (.lst (xs ++ ys)))) :
    tDrop (tBM K "list" rExtend ta (tCons te tNil)) D σ H := ha H (Ex.refl H) _ fun H1 e1 =>
  ⟨Or.inl ⟨rfl, xs, sq_of (e1 l _ hl)⟩, h H1 e1 _ fun v H2 e2 r => by
    obtain ⟨p, ys, rfl, hp, hq⟩ := r
    exact ⟨l, p, xs, ys, rfl, rfl, e2 l _ (e1 l _ hl), hp, sz_of (by rw [Paired.length hq]; exact hz), k ys H2 (e1.trans e2) hq⟩⟩
end
theorem paired_app {α β : Type} {F : α → β → Prop} : ∀ {l₁ : List α} {l₂ : List β} {m₁ : List α} {m₂ : List β}, Paired F l₁ l₂ → Paired F m₁ m₂ → Paired F (l₁ ++ m₁) (l₂ ++ m₂)
  | _, _, _, _, .nil, h => h
  | _, _, _, _, .cons r t, h => .cons r (paired_app t h)

section
variable {P : Program} {w : World} {K : PySem.W.Frag} {mg : Str → Option Value} {base : Heap}
theorem ep_parts {σ : L2.St} {H : Hp} {ta : TE} {p : Addr} {s : St} {E : XK} (S : StAt K H p s) (ha : Ev ta σ H (.ref p)) : EvP (tMeth (aState K) "parts" (spParts K) [] E ta tNil) σ H (TpV K (s.parts.map vo)) := by
  obtain ⟨dx, w, h1, h2⟩ := S.ex
  exact ep_meth ha h1 rfl ea_nil fun H1 e Q k E => ⟨p, s, rfl, S.x e, k⟩
theorem paired_vo (H : Hp) : ∀ (l : List Val), Paired (fun x b => ∀ (i : Nat) H1, ExT H H1 → x = vo b) (l.map vo) l
  | [] => .nil
  | _ :: l => .cons (fun _ _ _ => rfl) (paired_vo H l)
theorem take_all {α : Type} (l : List α) : l.take l.length = l := List.take_of_length_le (Nat.le_refl _)
theorem take_next {α : Type} {l : List α} {i : Nat} {a : α} (h : l[i]? = some a) : l.take (i + 1) = l.take i ++ [a] := by
  rw [List.take_add_one, h]
  rfl
theorem lt_of_get {α : Type} {l : List α} {i : Nat} {a : α} (h : l[i]? = some a) : i < l.length := (List.getElem?_eq_some_iff.mp h).1
theorem learnAll_len2 {S : Spot} (h : S.length ≤ 2) (n : Nat) (vs : List Val) (hv : vs.length ≤ 4) : (learnAll (learnAll [] (vals (S.take n))) vs).length ≤ 12 := by
  have h1 := learnAll_len vs (learnAll [] (vals (S.take n)))
  have h2 := learnAll_len (vals (S.take n)) []
  have h3 := vals_len (S.take n)
  have h4 : (S.take n).length ≤ 2 := Nat.le_trans (by rw [List.length_take]; exact Nat.min_le_right _ _) h
  have h5 : ([] : List Int).length = 0 := rfl
  omega
theorem vals_take {S : Spot} {i : Nat} {s : St} (h : S[i]? = some s) : vals (S.take (i + 1)) = vals (S.take i) ++ s.parts := by
  unfold vals
  rw [take_next h, List.flatMap_append]
  simp
theorem fall_lt {l : List Int} {f : Int} (h : f ∈ l) : (l.filter fun i => decide (f + 1 ≤ i)).length < (l.filter fun i => decide (f ≤ i)).length := by
  have le : ∀ l : List Int, (l.filter fun i => decide (f + 1 ≤ i)).length ≤ (l.filter fun i => decide (f ≤ i)).length := fun l => by
    induction l with
    | nil => exact Nat.le_refl _
    | cons j l ih =>
      rw [List.filter_cons, List.filter_cons]
      by_cases h1 : f + 1 ≤ j
      · rw [if_pos (decide_eq_true h1), if_pos (decide_eq_true (by omega))]
        exact Nat.succ_le_succ ih
      · rw [if_neg (by simpa using h1)]
        split
        · exact Nat.le_succ_of_le ih
        · exact ih
  induction l with
  | nil => cases h
  | cons j l ih =>
    rw [List.filter_cons, List.filter_cons]
    by_cases e : f = j
    · subst e
      rw [if_neg (by simp; omega), if_pos (by simp)]
      exact Nat.lt_succ_of_le (le l)
    · have h2 := ih ((List.mem_cons.mp h).resolve_left e)
      by_cases h1 : f + 1 ≤ j
      · rw [if_pos (decide_eq_true h1), if_pos (decide_eq_true (by omega))]
        exact Nat.succ_lt_succ h2
      · rw [if_neg (by simpa using h1)]
        split
        · exact Nat.lt_succ_of_lt h2
        · exact h2
def valsP (S : Spot) : Pr := fun v H => ∃ p l, v = .ref p ∧ H p = some (.lst (l.map V.int)) ∧ ValsFor S l
def spValuesFor (K : PySem.W.Frag) : Sp := fun vs H Q _ => ∃ a S, vs = [.ref a] ∧ SpAt K H a S ∧ S.length ≤ 2 ∧ RetP (valsP S) H Q
def kvT (l : List Int) : HO := .dK (kvL (fun _ => V.bl true) 0 l)
theorem cal_values_for (T : Txt K mg) : Cal P w K mg base 3 "values_for" (spValuesFor K) [] := by
  obtain ⟨fd, F⟩ := T.f_values_for
  refine calD F T.g_values_for (F.bindsN fun _ _ _ _ _ _ us hl => match us, hl with | [_], _ => rfl) sc_values_for (fun vs H Q E h => ?_) (fun cdv A outer s H vs Q E hr h => ?_)
  · obtain ⟨a, S, rfl, _⟩ := h
    rfl
  · obtain ⟨a, S, rfl, hS, hl, k⟩ := h
    have hu := Nat.lt_of_le_of_lt (Nat.add_le_add_left (show 1 ≤ 65 by decide) _) (u65 hr)
    refine ⟨_, (pss_cons (ps_set (i := 1) sc_values_for.nd rfl (Or.inl rfl) pe_dnewK)
      (pss_cons (ps_for PassesOwn.never rfl (pi_tup (pv 0)) (pg_name (i := 2) sc_values_for.nd rfl (Or.inl rfl))
        (pss_one (ps_for PassesOwn.never rfl (pi_tup (pe_mt0 (met_State_parts T) hr (by decide) (pv 2))) (pg_name (i := 3) sc_values_for.nd rfl (Or.inl rfl))
          (pss_one (ps_if (ptc op_notN (pv 3) pe_non)
            (pss_one (ps_dput hu (pv 1) (pv 3) pe_bl rfl))
            pss_nil)))))
      (pss_cons (ps_set (i := 4) sc_values_for.nd rfl (Or.inl rfl) pe_int)
      (pss_cons (ps_while PassesOwn.never (pt_cmp (pc_din hu (pv 4) (pv 1)))
        (pss_one (ps_aug (i := 4) sc_values_for.nd rfl (Or.inl rfl) pe_int ip_add)))
      (pss_one (ps_ret (pe_lst (kStar K (pe_callB (call_sortedDI rfl) (by rfl) T.z_sorted (by decide +kernel) (pa_cons (pv 1) pa_nil)) (pa_cons (pv 4) pa_nil))))))))), ?_⟩
    intro D hD
    have hS0 : SpAt K (upd H D (kvT [])) a S := hS.t (tOf (Ex.new hD))
    obtain ⟨xs, hx, hp⟩ := id hS0
    refine s_for (itt_tup (as := S) (Ri := fun _ s => isSt K s) (ev_var rfl) hx (Paired.mapP hp fun _ _ z i H1 e => stb_isSt K _ _ _ _ e z)) (fun H2 i σ' H' => ExT H2 H' ∧ Ex H H' ∧ H' D = some (kvT (learnAll [] (vals (S.take i)))) ∧ ∃ u2 u3 u4, σ' = [some (.ref a), some (.ref D), u2, u3, u4]) (fun H2 e2 => ⟨ExT.refl _, (Ex.new hD).trans e2, e2 _ _ upd_same, none, none, none, rfl⟩) (fun H2 i σ' H' h => h.1) ?_ ?_
    · rintro H2 i s x σ' Ha Hb e2 hs ⟨eT, eH, hDa, u2, u3, u4, rfl⟩ eab ⟨p, rfl, Sp⟩
      refine s_for (itt_ntup (as := s.parts) (Ri := fun _ v x _ => x = vo v) (ep_parts Sp (ev_var rfl)) (paired_vo _ _)) (fun H3 j σ' H' => ExT H3 H' ∧ ExT Hb H' ∧ Ex H H' ∧ H' D = some (kvT (learnAll (learnAll [] (vals (S.take i))) (s.parts.take j))) ∧ ∃ u3 u4, σ' = [some (.ref a), some (.ref D), some (.ref p), u3, u4]) (fun H3 e3 => ⟨ExT.refl _, tOf e3, (eH.trans eab).trans e3, e3 _ _ (eab _ _ hDa), u3, u4, rfl⟩) (fun H3 j σ' H' h => h.1) ?_ ?_
      · rintro H3 j v x σ' Hc Hd e3 hv ⟨fT, fb, fH, hDc, u3, u4, rfl⟩ ecd rfl
        have hDd := ecd _ _ hDc
        have nxt : learnAll (learnAll [] (vals (S.take i))) (s.parts.take (j + 1)) = learn (learnAll (learnAll [] (vals (S.take i))) (s.parts.take j)) v := by
          rw [take_next hv, learnAll_append]
          rfl
        refine s_when (b := !v.isNone) (et_test (ev_is (ev_op (ev_var rfl) ev_c rv_notN) (by cases v <;> rfl))) (fun hb H5 e5 => ?_) (fun hb H5 e5 => ?_)
        · obtain ⟨n, rfl⟩ : ∃ n, v = some n := by
            cases v with
            | none => cases hb
            | some n => exact ⟨n, rfl⟩
          have hD5 := e5 _ _ hDd
          have hlen : (kvL (fun _ => V.bl true) 0 (learnAll (learnAll [] (vals (S.take i))) (s.parts.take j))).length < sizeLine := by
            rw [kvL_len]
            have := learnAll_len2 hl i (s.parts.take j) (Nat.le_trans (by rw [List.length_take]; exact Nat.min_le_right _ _) (parts_len s))
            exact sz_lt (by omega)
          refine ⟨.ref D, rfl, .int n, rfl, D, _, rfl, DPut.k (k := .inl n) hD5 hlen, ?_⟩
          refine ⟨ExT.upd (fT.trans (tOf (ecd.trans e5))) hD5 (fun z => z), ExT.upd (fb.trans (tOf (ecd.trans e5))) hD5 (fun z => z), Ex.mut (fH.trans (ecd.trans e5)) hD, ?_, _, u4, rfl⟩
          rw [upd_same, kvL_learn, nxt]
          rfl
        · obtain rfl : v = none := by
            cases v with
            | none => rfl
            | some n => cases hb
          refine ⟨fT.trans (tOf (ecd.trans e5)), fb.trans (tOf (ecd.trans e5)), fH.trans (ecd.trans e5), ?_, _, u4, rfl⟩
          rw [nxt]
          exact e5 _ _ hDd
      · rintro H3 σ' H' e3 ⟨fT, fb, fH, hDc, u3, u4, rfl⟩
        refine ⟨eT.trans ((tOf eab).trans fb), fH, ?_, _, u3, u4, rfl⟩
        rw [vals_take hs, learnAll_append]
        rw [take_all] at hDc
        exact hDc
    · rintro H2 σ' H' e2 ⟨eT, eH, hDa, u2, u3, u4, rfl⟩
      rw [take_all] at hDa
      have few : (learnAll [] (vals S)).length ≤ 8 := by
        have h2 := learnAll_len (vals S) []
        have h3 := vals_len S
        have h5 : ([] : List Int).length = 0 := rfl
        omega
      refine q_asg ev_c fun H3 e3 => ?_
      refine s_while (W := fun m σ2 H4 => Ex H' H4 ∧ ∃ f : Int, σ2 = [some (.ref a), some (.ref D), u2, u3, some (.int f)] ∧ m = ((learnAll [] (vals S)).filter fun i => decide (f ≤ i)).length) _ ⟨e3, 1, rfl, rfl⟩ ?_
      rintro m σ2 H4 ⟨e4, f, rfl, rfl⟩
      refine ⟨decide (f ∈ learnAll [] (vals S)), ?_, ?_, ?_⟩
      · intro H5 e5 Q2 q2
        refine ⟨.int f, rfl, .ref D, rfl, D, _, rfl, DGet.k (k := .inl f) (e5 _ _ (e4 _ _ hDa)), _, rfl, ?_⟩
        have e : (valV (kvL (fun _ => V.bl true) 0 (learnAll [] (vals S))) (.inl f : Key)).isSome = decide (f ∈ learnAll [] (vals S)) := by
          rw [kvL_val]
          by_cases q : f ∈ learnAll [] (vals S)
          · rw [if_pos q, decide_eq_true q]
            rfl
          · rw [if_neg q, decide_eq_false q]
            rfl
        rw [e]
        exact q2 H5 (Ex.refl _)
      · intro hb H5 e5
        refine ⟨fun σ2 H6 => Ex H' H6 ∧ σ2 = [some (.ref a), some (.ref D), u2, u3, some (.int (f + 1))], fun σ2 H6 ⟨h1, h2⟩ => ⟨_, fall_lt (of_decide_eq_true hb), h1, f + 1, h2, rfl⟩, ?_⟩
        exact s_aug (f := fun i j => i + j) (a := f) (b := 1) rfl ev_c fun H6 e6 => ⟨(e4.trans e5).trans e6, rfl⟩
      · intro hb H5 e5
        have fr : f ∉ learnAll [] (vals S) := of_decide_eq_false hb
        have e45 := e4.trans e5
        refine ⟨.ref D, rfl, D, _, learnAll [] (vals S), rfl, .inl (e45 _ _ hDa), kvL_keys _ _ _, by omega, fun ys q hperm _ hq => ⟨q, ys.map V.int, rfl, .inr (sq_of upd_same), .int f, rfl, sz_of ?_, fun p hp => k _ _ (((eH.trans e45).trans (Ex.new hq)).trans (Ex.new hp)) ⟨p, ys ++ [f], rfl, ?_, ?_⟩⟩⟩
        · have := hperm.length_eq
          simp
          omega
        · rw [upd_same, List.map_append]
          rfl
        · refine ⟨fun i hi => List.mem_append.mpr (.inl (hperm.mem_iff.mpr (mem_learnAll.mpr (.inr hi)))), ⟨f, by simp, fun hf => fr (mem_learnAll.mpr (.inr hf))⟩, ?_⟩
          have := hperm.length_eq
          simp
          omega
end
end Ci

set_option Elab.async false
set_option linter.all false
set_option maxRecDepth 100000
set_option maxHeartbeats 4000000
/-! events_for. -/
namespace Ci
open PySem PySem.Spec PyProof.Rows L2 Evl
open C8 (Cal Met Mak pe_c pe_mk pe_mt pe_mt0 pe_gc)
section
variable {P : Program} {w : World} {K : PySem.W.Frag} {mg : Str → Option Value} {base : Heap}
theorem ep_lc_list {σ : L2.St} {H : Hp} {tl te : TE} {g : TG} {t : TT} {us : List Nat} {R0 R : Pr} (h : EvP tl σ H R0) (hk : ∀ v H1, Ex H H1 → R0 v H1 → EvP (tLc (iList K (tC v)) g t te us) σ H1 R) : EvP (tLc (iList K tl) g t te us) σ H R := fun H1 e1 Q q =>
  h H1 e1 _ fun v H2 e2 r => hk v H2 (e1.trans e2) r H2 (Ex.refl _) Q fun u H3 e3 ru => q u H3 (e2.trans e3) ru
theorem s_extR {σ : L2.St} {H : Hp} {ta te : TE} {D : Ends} {l : Addr} {xs : List V} {R : Pr} (hl : H l = some (.lst xs)) (ha : Ev ta σ H (.ref l)) (h : EvP te σ H R)
    (k : ∀ v H1, Ex H H1 → R v H1 → ∃ p zs, v = .ref p ∧ H1 p = some (.lst zs) ∧ xs.length + zs.length ≤ 100000 ∧ D.nx σ (upd H1 l (.lst (xs ++ zs)))) :
    tDrop (tBM K "list" rExtend ta (tCons te tNil)) D σ H := ha H (Ex.refl H) _ fun H1 e1 =>
  ⟨Or.inl ⟨rfl, xs, sq_of (e1 l _ hl)⟩, h H1 e1 _ fun v H2 e2 r => by
    obtain ⟨p, zs, rfl, hp, hz, hk⟩ := k v H2 (e1.trans e2) r
    exact ⟨l, p, xs, zs, rfl, rfl, e2 l _ (e1 l _ hl), hp, sz_of hz, hk⟩⟩
def evsP (K : PySem.W.Frag) (S : Spot) (ws : List Word) : Pr := fun v H => ∃ es, LsP (fun e => isD K (evD e)) es v H ∧ EvsFor S ws es ∧ es.length ≤ 45
def spEventsFor (K : PySem.W.Frag) : Sp := fun vs H Q _ => ∃ a S v ws, vs = [.ref a, v] ∧ SpAt K H a S ∧ S.length ≤ 2 ∧ ws.Nodup ∧ Dp K H v (wsD ws) ∧ RetP (evsP K S ws) H Q
theorem paired_ints (H : Hp) : ∀ (l : List Int), Paired (fun y (i : Int) => isV (.int i) y H) (l.map V.int) l
  | [] => .nil
  | _ :: l => .cons rfl (paired_ints H l)
theorem paired_ints2 (H : Hp) : ∀ (l : List Int), Paired (fun x (i : Int) => ∀ H1, Ex H H1 → x = V.int i) (l.map V.int) l
  | [] => .nil
  | _ :: l => .cons (fun _ _ => rfl) (paired_ints2 H l)
theorem paired_map {α β γ : Type} {F : α → γ → Prop} {f : β → γ} : ∀ {l₁ : List α} {l₂ : List β}, Paired (fun a b => F a (f b)) l₁ l₂ → Paired F l₁ (l₂.map f)
  | _, _, .nil => .nil
  | _, _, .cons r t => .cons r (paired_map t)
theorem ep_values {σ : L2.St} {H : Hp} {ta : TE} {a : Addr} {S : Spot} {E : XK} (hS : SpAt K H a S) (hl : S.length ≤ 2) (ha : Ev ta σ H (.ref a)) : EvP (tCall (spValuesFor K) [] E (tCons ta tNil)) σ H (valsP S) :=
  ep_call (ea_cons ha ea_nil) fun H1 e Q k E => ⟨a, S, rfl, hS.t (tOf e), hl, k⟩
theorem paired_words (H : Hp) : ∀ (l : List Word), Paired (fun v y => ∀ (i : Nat) H2, ExT H H2 → v = V.str (wordS y)) ((l.map wordS).map V.str) l
  | [] => .nil
  | _ :: l => .cons (fun _ _ _ => rfl) (paired_words H l)
theorem evs_snoc_val {S : Spot} {ws : List Word} {w : Word} {es : List Evt} {l : List Int} (h : EvsFor S ws es) (hv : w.valued = true) (hl : ValsFor S l) : EvsFor S (ws ++ [w]) (es ++ l.map (Evt.val w)) where
  inw := fun e he => by
    rcases List.mem_append.mp he with h1 | h1
    · have h2 := h.inw e h1
      cases e with
      | carry a => trivial
      | val u i => exact ⟨List.mem_append.mpr (.inl h2.1), h2.2⟩
      | plain u => exact ⟨List.mem_append.mpr (.inl h2.1), h2.2⟩
    · obtain ⟨i, _, rfl⟩ := List.mem_map.mp h1
      exact ⟨by simp, hv⟩
  known := fun u hu hv' i hi => by
    rcases List.mem_append.mp hu with h1 | h1
    · exact List.mem_append.mpr (.inl (h.known u h1 hv' i hi))
    · obtain rfl := List.mem_singleton.mp h1
      exact List.mem_append.mpr (.inr (List.mem_map.mpr ⟨i, hl.known i hi, rfl⟩))
  fresh := fun u hu hv' => by
    rcases List.mem_append.mp hu with h1 | h1
    · obtain ⟨f, h2, h3⟩ := h.fresh u h1 hv'
      exact ⟨f, h2, List.mem_append.mpr (.inl h3)⟩
    · obtain rfl := List.mem_singleton.mp h1
      obtain ⟨f, h2, h3⟩ := hl.fresh
      exact ⟨f, h3, List.mem_append.mpr (.inr (List.mem_map.mpr ⟨f, h2, rfl⟩))⟩
  plain := fun u hu hv' => by
    rcases List.mem_append.mp hu with h1 | h1
    · exact List.mem_append.mpr (.inl (h.plain u h1 hv'))
    · obtain rfl := List.mem_singleton.mp h1
      rw [hv] at hv'
      cases hv'
theorem evs_snoc_plain {S : Spot} {ws : List Word} {w : Word} {es : List Evt} (h : EvsFor S ws es) (hv : w.valued = false) : EvsFor S (ws ++ [w]) (es ++ [.plain w]) where
  inw := fun e he => by
    rcases List.mem_append.mp he with h1 | h1
    · have h2 := h.inw e h1
      cases e with
      | carry a => trivial
      | val u i => exact ⟨List.mem_append.mpr (.inl h2.1), h2.2⟩
      | plain u => exact ⟨List.mem_append.mpr (.inl h2.1), h2.2⟩
    · obtain rfl := List.mem_singleton.mp h1
      exact ⟨by simp, hv⟩
  known := fun u hu hv' i hi => by
    rcases List.mem_append.mp hu with h1 | h1
    · exact List.mem_append.mpr (.inl (h.known u h1 hv' i hi))
    · obtain rfl := List.mem_singleton.mp h1
      rw [hv] at hv'
      cases hv'
  fresh := fun u hu hv' => by
    rcases List.mem_append.mp hu with h1 | h1
    · obtain ⟨f, h2, h3⟩ := h.fresh u h1 hv'
      exact ⟨f, h2, List.mem_append.mpr (.inl h3)⟩
    · obtain rfl := List.mem_singleton.mp h1
      rw [hv] at hv'
      cases hv'
  plain := fun u hu hv' => by
    rcases List.mem_append.mp hu with h1 | h1
    · exact List.mem_append.mpr (.inl (h.plain u h1 hv'))
    · obtain rfl := List.mem_singleton.mp h1
      exact List.mem_append.mpr (.inr (by simp))
theorem cal_events_for (T : Txt K mg) : Cal P w K mg base 4 "events_for" (spEventsFor K) [] := by
  obtain ⟨fd, F⟩ := T.f_events_for
  refine calD F T.g_events_for (F.bindsN fun _ _ _ _ _ _ us hl => match us, hl with | [_, _], _ => rfl) sc_events_for (fun vs H Q E h => ?_) (fun cdv A outer s H vs Q E hr h => ?_)
  · obtain ⟨a, S, v, ws, rfl, _⟩ := h
    rfl
  · obtain ⟨a, S, v, ws, rfl, hS, hl, nd, dW, k⟩ := h
    obtain ⟨x, rfl, hx⟩ := dp_strs dW
    refine ⟨_, (pss_cons (ps_set (i := 2) sc_events_for.nd rfl (Or.inl rfl) (pe_lst pa_nil))
      (pss_cons (ps_for PassesOwn.never rfl (pi_tup (pv 1)) (pg_name (i := 3) sc_events_for.nd rfl (Or.inr rfl))
        (pss_one (ps_if (ptc (kIn K) (pv 3) (pe_tup (pa_cons pe_str (pa_cons pe_str pa_nil))))
          (pss_one (ps_expr (pe_bm PySem.F.plainAttrs_list PySem.F.slot_list_extend PySem.F.type_list_extend mt_extend (pv 2) (pa_cons (pe_lc (own := [("value", 4)]) (by rfl) sc_events_for.nd (pi_list (pe_c (cal_values_for T) hr (by decide) rfl (pa_cons (pv 0) pa_nil))) (blkOk_by (own := [("value", 4)]) (N := n_events_for) (sc := defScope s_events_for) (by decide +kernel)) (fun _ _ _ _ _ => (pg_name (i := 4) sc_events_for.nd rfl (Or.inl rfl))) (fun _ _ _ _ _ => pts_nil) (fun _ _ _ _ _ => (pe_tup (pa_cons (pv 3) (pa_cons (pv 4) pa_nil))))) pa_nil))))
          (pss_one (ps_expr (pe_bm PySem.F.plainAttrs_list PySem.F.slot_list_append PySem.F.type_list_append mt_append (pv 2) (pa_cons (pe_tup (pa_cons (pv 3) pa_nil)) pa_nil)))))))
      (pss_one (ps_ret (pv 2))))), ?_⟩
    have no2 : ∀ {σ : L2.St} {H' : Hp} {z a b : Str} {c : Bool}, Ev (tVar 3) σ H' (.str z) → inV (.str z) [.str a, .str b] = c → EvT (tTest (tOp (rIn K false) (tVar 3) (tTup (tCons (tC (.str a)) (tCons (tC (.str b)) tNil))))) σ H' c := fun h1 h2 =>
      et_is (et_test (ev_inU h1 (eu_tup (ea_cons ev_c (ea_cons ev_c ea_nil)) (by show 2 ≤ 100000; decide)) rfl rfl)) h2
    refine q_asgL (el_lst ea_nil (by decide)) fun D H1 hD e1 hD1 => ?_
    refine s_for (itt_tup (as := ws) (Ri := fun _ y v _ => v = .str (wordS y)) (ev_var rfl) (ex_t e1 hx) (paired_words _ ws)) (fun H2 i σ' H' => ExT H2 H' ∧ Ex H H' ∧ (∃ ys es, H' D = some (.lst ys) ∧ Paired (fun y e => isD K (evD e) y H') ys es ∧ EvsFor S (ws.take i) es ∧ es.length ≤ 9 * i) ∧ ∃ u3 u4, σ' = [some (.ref a), some (.ref x), some (.ref D), u3, u4]) (fun H2 e2 => ⟨ExT.refl _, e1.trans e2, ⟨[], [], e2 _ _ hD1, .nil, ⟨(by intro e h; cases h), (by intro e h; cases h), (by intro e h; cases h), (by intro e h; cases h)⟩, Nat.zero_le _⟩, none, none, rfl⟩) (fun H2 i σ' H' h => h.1) ?_ ?_
    · rintro H2 i y v σ' Ha Hb e2 hy ⟨eT, eH, ⟨ys, es, hDa, hq, hE, hz⟩, u3, u4, rfl⟩ eab rfl
      have hi5 : i < 5 := Nat.lt_of_lt_of_le (lt_of_get hy) (words_few nd)
      have hyl : ys.length = es.length := Paired.length hq
      cases hv : y.valued with
      | true =>
        refine s_if (no2 (ev_var rfl) (c := true) (by cases y <;> first | (cases hv; done) | decide +kernel)) (fun _ H3 e3 => ?_) fun h => by cases h
        have e03 := eab.trans e3
        have S3 : SpAt K H3 a S := hS.t (tOf (eH.trans e03))
        refine s_extR (R := fun v H4 => ∃ l, ValsFor S l ∧ LsP (fun i => isD K (evD (.val y i))) l v H4) (e03 _ _ hDa) (ev_var rfl) (ep_lc_list (ep_values S3 hl (ev_var rfl)) ?_) ?_
        · rintro v H4 e4 ⟨p, l, rfl, hp, hV⟩
          have hc := ep_comp (R := fun i => isD K (evD (.val y i))) (t := tYes) (g := gName 4) (vs := [4]) (te := tTup (tCons (tVar 3) (tCons (tVar 4) tNil))) (σ := [some (.ref a), some (.ref x), some (.ref D), some (.str (wordS y)), u4]) l (fun _ => true) (fun i => i) (fun i v _ => v = .int i) (fun i σ2 _ => σ2 = [some (.ref a), some (.ref x), some (.ref D), some (.str (wordS y)), some (.int i)]) (it_list (K := K) ev_c (SqL.of hp) (paired_ints2 H4 l)) (by
            rintro i v H5 _ _ rfl Kt kt
            exact kt _ rfl rfl) (fun _ _ _ _ _ _ => ev_tYes) (by
            rintro i σ2 H5 _ e5 rfl _
            refine ep_imp (ep_tup (K := K) (vs := [.str (wordS y), .int i]) (ea_cons (ev_var rfl) (ea_cons (ev_var rfl) ea_nil)) (by show 2 ≤ 100000; decide)) fun v H6 _ ⟨q, ev, h⟩ => ?_
            subst ev
            exact .tup h (.cons (.str _) (.cons (.int _) .nil))) (fun i => stb_isD K (noL_ev (.val y i))) (Nat.le_trans hV.few (by decide))
          refine ep_imp hc fun v H5 _ h => ⟨l, hV, ?_⟩
          rw [List.filter_eq_self.mpr (fun _ _ => rfl), List.map_id'] at h
          exact h
        · rintro v H4 e4 ⟨l, hV, p, zs, rfl, hp, hq2⟩
          have hzl : zs.length = l.length := Paired.length hq2
          have few := hV.few
          have e04 := e03.trans e4
          have eU : ExT H4 (L2.upd H4 D (.lst (ys ++ zs))) := ExT.upd (ExT.refl _) (e04 _ _ hDa) fun z => z
          refine ⟨p, zs, rfl, hp, by omega, (eT.trans (tOf e04)).trans eU, Ex.mut (eH.trans e04) hD, ⟨_, es ++ l.map (Evt.val y), upd_same, paired_app (Paired.mapP hq fun y e z => stb_isD K (noL_ev e) _ _ _ ((tOf e04).trans eU) z) ?_, ?_, ?_⟩, _, u4, rfl⟩
          · exact paired_map (Paired.mapP hq2 fun u i z => stb_isD K (noL_ev (.val y i)) _ _ _ eU z)
          · rw [take_next hy]
            exact evs_snoc_val hE hv hV
          · rw [List.length_append, List.length_map]
            omega
      | false =>
        refine s_if (no2 (ev_var rfl) (c := false) (by cases y <;> first | (cases hv; done) | decide +kernel)) (fun h => by cases h) fun _ H3 e3 => ?_
        have e03 := eab.trans e3
        refine s_appP (e03 _ _ hDa) (ev_var rfl) (ep_tup (K := K) (vs := [.str (wordS y)]) (ea_cons (ev_var rfl) ea_nil) (by show 1 ≤ 100000; decide)) (by omega) fun v H4 e4 ⟨q, ev, hv4⟩ => ?_
        subst ev
        have e04 := e03.trans e4
        have eU : ExT H4 (L2.upd H4 D (.lst (ys ++ [.ref q]))) := ExT.upd (ExT.refl _) (e04 _ _ hDa) fun z => z
        refine ⟨(eT.trans (tOf e04)).trans eU, Ex.mut (eH.trans e04) hD, ⟨_, es ++ [.plain y], upd_same, paired_snoc (F := fun y e => isD K (evD e) y (L2.upd H4 D (.lst (ys ++ [.ref q])))) ?_ (Paired.mapP hq fun y e z => stb_isD K (noL_ev e) _ _ _ ((tOf e04).trans eU) z), ?_, ?_⟩, _, u4, rfl⟩
        · exact .tup (sqT eU hv4) (.cons (.str _) .nil)
        · rw [take_next hy]
          exact evs_snoc_plain hE hv
        · rw [List.length_append]
          show es.length + 1 ≤ 9 * (i + 1)
          omega
    · rintro H2 σ' H' e2 ⟨eT, eH, ⟨ys, es, hDa, hq, hE, hz⟩, u3, u4, rfl⟩
      rw [take_all] at hE
      refine s_ret (ev_var rfl) fun H3 e3 => k _ _ (eH.trans e3) ⟨es, ⟨D, ys, rfl, e3 _ _ hDa, Paired.mapP hq fun y e z => stb_isD K (noL_ev e) _ _ _ (tOf e3) z⟩, hE, ?_⟩
      have := words_few nd
      omega
end
end Ci

set_option Elab.async false
set_option linter.all false
set_option maxRecDepth 100000
set_option maxHeartbeats 4000000
/-! common_key. -/
namespace Ci
open PySem PySem.Spec PyProof.Rows L2 Evl
open C8 (Cal Met Mak pe_c pe_mk pe_mt pe_mt0 pe_gc)
theorem nums_snoc (v : Val) : ∀ (l : List Val) (known : List Int), nums known (l ++ [v]) = nums known l ++ [numV (learn (learnAll known l) v) v]
  | [], _ => rfl
  | u :: l, known => by
    show numV (learn known u) u :: nums (learn known u) (l ++ [v]) = _ :: (nums (learn known u) l ++ _)
    rw [nums_snoc v l (learn known u)]
    rfl
theorem keyGo_snoc (s : St) : ∀ (S : Spot) (known : List Int), keyGo known (S ++ [s]) = keyGo known S ++ (nums (learnAll known (vals S)) s.parts ++ tail2 s)
  | [], known => by
    show nums known s.parts ++ (tail2 s ++ []) = [] ++ (nums known s.parts ++ tail2 s)
    rw [List.append_nil, List.nil_append]
  | t :: S, known => by
    show nums known t.parts ++ (tail2 t ++ keyGo (learnAll known t.parts) (S ++ [s])) = (nums known t.parts ++ (tail2 t ++ keyGo (learnAll known t.parts) S)) ++ _
    have e : learnAll known (vals (t :: S)) = learnAll (learnAll known t.parts) (vals S) := by
      unfold vals
      rw [List.flatMap_cons, learnAll_append]
    rw [keyGo_snoc s S, e]
    simp only [List.append_assoc]
theorem nums_len : ∀ (l : List Val) (known : List Int), (nums known l).length = l.length
  | [], _ => rfl
  | v :: l, known => congrArg Nat.succ (nums_len l _)
theorem keyGo_len : ∀ (S : Spot) (known : List Int), (keyGo known S).length ≤ 6 * S.length
  | [], _ => Nat.zero_le _
  | s :: S, known => by
    have h1 := keyGo_len S (learnAll known s.parts)
    have h2 := nums_len s.parts known
    have h3 := parts_len s
    have h4 : (tail2 s).length = 2 := rfl
    rw [List.length_cons]
    show (nums known s.parts ++ (tail2 s ++ keyGo (learnAll known s.parts) S)).length ≤ _
    rw [List.length_append, List.length_append]
    omega
section
variable {K : PySem.W.Frag} {σ : L2.St} {H : Hp} {te : TE} {xs : List V}
theorem ep_L (h : EvL te σ H xs) : EvP te σ H (fun v H1 => ∃ p, v = .ref p ∧ H1 p = some (.lst xs)) := fun H1 e Q q => h H1 e _ fun p H2 _ e2 h2 => q _ H2 e2 ⟨p, rfl, h2⟩
end
def gN : Nat → V := fun n => .int ((n : Int) + 1)
def kvN (l : List Int) : HO := .dK (kvL gN 0 l)
theorem numV_known {l : List Int} {i : Int} (h : i ∈ l) : numV l (some i) = (l.idxOf i : Int) + 1 := rfl
theorem key_app {K : PySem.W.Frag} {Dn : Ends} {H : Hp} {x0 x3 : Option V} {D L : Addr} {kn : List Int} {v : Val} {xs : List V} (hD : H D = some (kvN kn)) (hL : H L = some (.lst xs)) (hv : ∀ n, v = some n → n ∈ kn) (hz : xs.length < 100000)
    (k : ∀ H1, Ex H H1 → Dn.nx [x0, some (.ref D), some (.ref L), x3, some (vo v)] (upd H1 L (.lst (xs ++ [.int (numV kn v)])))) :
    tDrop (tBM K "list" rAppend (tVar 2) (tCons (tIf (tTest (tOp (fun x y H Q => y = .non ∧ Q (.bl (decide (x = .non))) H) (tVar 4) (tC .non))) (tC (.int 0)) (tDGet (tVar 1) (tVar 4))) tNil)) Dn [x0, some (.ref D), some (.ref L), x3, some (vo v)] H := by
  refine s_app (v := .int (numV kn v)) hL (ev_var rfl) ?_ hz k
  refine ev_if (b := v.isNone) (et_test (ev_is (ev_op (ev_var rfl) ev_c rv_isN) (congrArg V.bl (vo_non v)))) (fun h => ?_) fun h => ?_
  · cases v with
    | none => exact ev_c
    | some n => cases h
  · cases v with
    | none => cases h
    | some n =>
      intro H1 e1 Q q
      have hm := hv n rfl
      have g := DGet.k (k := .inl n) (e1 _ _ hD)
      rw [kvL_val, if_pos hm] at g
      refine ⟨.ref D, rfl, .int n, rfl, D, _, rfl, g, ?_⟩
      have e : gN (0 + kn.idxOf n) = .int (numV kn (some n)) := by
        rw [Nat.zero_add]
        rfl
      rw [e]
      exact q H1 (Ex.refl _)
section
variable {P : Program} {w : World} {K : PySem.W.Frag} {mg : Str → Option Value} {base : Heap}
def keyP (S : Spot) : Pr := fun v H => ∃ b, v = .ref b ∧ H b = some (.tup ((keyOf S).map V.int))
def spCommonKey (K : PySem.W.Frag) : Sp := fun vs H Q _ => ∃ a S, vs = [.ref a] ∧ SpAt K H a S ∧ S.length ≤ 2 ∧ RetP (keyP S) H Q
theorem cal_common_key (T : Txt K mg) : Cal P w K mg base 3 "common_key" (spCommonKey K) [] := by
  obtain ⟨fd, F⟩ := T.f_common_key
  refine calD F T.g_common_key (F.bindsN fun _ _ _ _ _ _ us hl => match us, hl with | [_], _ => rfl) sc_common_key (fun vs H Q E h => ?_) (fun cdv A outer s H vs Q E hr h => ?_)
  · obtain ⟨a, S, rfl, _⟩ := h
    rfl
  · obtain ⟨a, S, rfl, hS, hl, k⟩ := h
    have hu := Nat.lt_of_le_of_lt (Nat.add_le_add_left (show 1 ≤ 65 by decide) _) (u65 hr)
    refine ⟨_, (pss_cons (ps_par (i := 1) (j := 2) (by rfl) sc_common_key.nd rfl rfl (by decide) rfl rfl (pa_cons pe_dnewK (pa_cons (pe_lst pa_nil) pa_nil)) (by rfl))
      (pss_cons (ps_for PassesOwn.never rfl (pi_tup (pv 0)) (pg_name (i := 3) sc_common_key.nd rfl (Or.inl rfl))
        (pss_cons (ps_for PassesOwn.never rfl (pi_tup (pe_mt0 (met_State_parts T) hr (by decide) (pv 3))) (pg_name (i := 4) sc_common_key.nd rfl (Or.inl rfl))
          (pss_cons (ps_if (PW.pt (pw_and (ptc op_notN (pv 4) pe_non) (pw_and1 (pt_cmp (pc_dnotin hu (pv 4) (pv 1))))))
            (pss_one (ps_dput hu (pv 1) (pv 4) (pe_op op_add (pe_callB call_lenD (by rfl) T.z_len PySem.boot_len (pa_cons (pv 1) pa_nil)) pe_int) rfl))
            pss_nil)
          (pss_one (ps_expr (pe_bm PySem.F.plainAttrs_list PySem.F.slot_list_append PySem.F.type_list_append mt_append (pv 2) (pa_cons (pe_ifExp (ptc op_isN (pv 4) pe_non) pe_int (pe_dget hu (pv 1) (pv 4) (fun _ _ => rfl))) pa_nil))))))
        (pss_one (ps_expr (pe_bm PySem.F.plainAttrs_list PySem.F.slot_list_extend PySem.F.type_list_extend mt_extend (pv 2) (pa_cons (pe_lst (pa_cons (pe_callB (kLen K) (by rfl) T.z_len PySem.boot_len (pa_cons (pf K (pv 3)) pa_nil)) (pa_cons (pe_callTy call_int1 (by rfl) T.z_int (by decide +kernel) (pa_cons (pf K (pv 3)) pa_nil)) pa_nil))) pa_nil))))))
      (pss_one (ps_ret (pe_callTy (kTupOf K) (by rfl) T.z_tuple (by decide +kernel) (pa_cons (pv 2) pa_nil)))))), ?_⟩
    intro D hD
    refine ⟨sz_of (by decide), fun L hL => ⟨_, _, rfl, ?_⟩⟩
    have hLn : H L = none := fresh_back (Ex.new hD) hL
    have hLD : L ≠ D := fun e => by
      subst e
      rw [upd_same] at hL
      cases hL
    have hDL : (L2.upd (L2.upd H D (.dK [])) L (.lst [])) D = some (kvN []) := by
      rw [upd_ne (Ne.symm hLD)]
      exact upd_same
    have eS : Ex H (L2.upd (L2.upd H D (.dK [])) L (.lst [])) := (Ex.new hD).trans (Ex.new hL)
    obtain ⟨xs, hx, hp⟩ := hS.t (tOf eS)
    refine (s_for (itt_tup (as := S) (Ri := fun _ s => isSt K s) (ev_var rfl) hx (Paired.mapP hp fun _ _ z i H1 e => stb_isSt K _ _ _ _ e z)) (fun H2 i σ' H' => ExT H2 H' ∧ Ex H H' ∧ H' D = some (kvN (learnAll [] (vals (S.take i)))) ∧ H' L = some (.lst ((keyOf (S.take i)).map V.int)) ∧ ∃ u3 u4, σ' = [some (.ref a), some (.ref D), some (.ref L), u3, u4]) (fun H2 e2 => ⟨ExT.refl _, eS.trans e2, e2 _ _ hDL, e2 _ _ upd_same, none, none, rfl⟩) (fun H2 i σ' H' h => h.1) ?_ ?_)
    · rintro H2 i s x σ' Ha Hb e2 hs ⟨eT, eH, hDa, hLa, u3, u4, rfl⟩ eab ⟨p, rfl, Sp⟩
      have keyl : ∀ j, ((keyOf (S.take i)) ++ nums (learnAll [] (vals (S.take i))) (s.parts.take j)).length ≤ 100 := fun j => by
        have h1 := keyGo_len (S.take i) []
        have h2 : (S.take i).length ≤ 2 := Nat.le_trans (by rw [List.length_take]; exact Nat.min_le_right _ _) hl
        have h3 := nums_len (s.parts.take j) (learnAll [] (vals (S.take i)))
        have h4 := parts_len s
        rw [List.length_append]
        show (keyGo [] (S.take i)).length + _ ≤ _
        rw [h3, List.length_take]
        omega
      refine (s_for (itt_ntup (as := s.parts) (Ri := fun _ v x _ => x = vo v) (ep_parts Sp (ev_var rfl)) (paired_vo _ _)) (fun H3 j σ' H' => ExT H3 H' ∧ ExT Hb H' ∧ Ex H H' ∧ H' D = some (kvN (learnAll (learnAll [] (vals (S.take i))) (s.parts.take j))) ∧ H' L = some (.lst ((keyOf (S.take i) ++ nums (learnAll [] (vals (S.take i))) (s.parts.take j)).map V.int)) ∧ ∃ u4, σ' = [some (.ref a), some (.ref D), some (.ref L), some (.ref p), u4]) (fun H3 e3 => ⟨ExT.refl _, tOf e3, (eH.trans eab).trans e3, e3 _ _ (eab _ _ hDa), by
          rw [show s.parts.take 0 = [] from rfl]
          show H3 L = some (.lst ((keyOf (S.take i) ++ []).map V.int))
          rw [List.append_nil]
          exact e3 _ _ (eab _ _ hLa), u4, rfl⟩) (fun H3 j σ' H' h => h.1) ?_ ?_)
      · rintro H3 j v x σ' Hc Hd e3 hv ⟨fT, fb, fH, hDc, hLc, u4, rfl⟩ ecd rfl
        have hDd := ecd _ _ hDc
        have hLd := ecd _ _ hLc
        have nxt : learnAll (learnAll [] (vals (S.take i))) (s.parts.take (j + 1)) = learn (learnAll (learnAll [] (vals (S.take i))) (s.parts.take j)) v := by
          rw [take_next hv, learnAll_append]
          rfl
        have nxn : nums (learnAll [] (vals (S.take i))) (s.parts.take (j + 1)) = nums (learnAll [] (vals (S.take i))) (s.parts.take j) ++ [numV (learn (learnAll (learnAll [] (vals (S.take i))) (s.parts.take j)) v) v] := by
          rw [take_next hv, nums_snoc]
        have few := learnAll_len2 hl i (s.parts.take j) (Nat.le_trans (by rw [List.length_take]; exact Nat.min_le_right _ _) (parts_len s))
        have kl := keyl j
        rw [nxt, nxn]
        generalize learnAll (learnAll [] (vals (S.take i))) (s.parts.take j) = kn at *
        generalize hnn : nums (learnAll [] (vals (S.take i))) (s.parts.take j) = nn at *
        have hbk : (keyOf (List.take i S) ++ nn).length < 100000 := by omega
        have hmap : ∀ z : Int, ((keyOf (List.take i S) ++ nn).map V.int) ++ [.int z] = (keyOf (List.take i S) ++ (nn ++ [z])).map V.int := fun z => by
          simp only [List.map_append, List.append_assoc, List.map_cons, List.map_nil]
        have fin : ∀ H5 H6, ExT Hd H5 → Ex H H5 → H5 D = some (kvN (learn kn v)) → H5 L = some (.lst ((keyOf (List.take i S) ++ nn).map V.int)) → Ex H5 H6 →
            ExT H3 (L2.upd H6 L (.lst (((keyOf (List.take i S) ++ nn).map V.int) ++ [.int (numV (learn kn v) v)]))) ∧ ExT Hb (L2.upd H6 L (.lst (((keyOf (List.take i S) ++ nn).map V.int) ++ [.int (numV (learn kn v) v)]))) ∧ Ex H (L2.upd H6 L (.lst (((keyOf (List.take i S) ++ nn).map V.int) ++ [.int (numV (learn kn v) v)]))) ∧
              (L2.upd H6 L (.lst (((keyOf (List.take i S) ++ nn).map V.int) ++ [.int (numV (learn kn v) v)]))) D = some (kvN (learn kn v)) ∧ (L2.upd H6 L (.lst (((keyOf (List.take i S) ++ nn).map V.int) ++ [.int (numV (learn kn v) v)]))) L = some (.lst ((keyOf (List.take i S) ++ (nn ++ [numV (learn kn v) v])).map V.int)) := fun H5 H6 eT5 eH5 hD5 hL5 e56 => by
          have hL6 := e56 _ _ hL5
          refine ⟨ExT.upd ((fT.trans (tOf ecd)).trans (eT5.trans (tOf e56))) hL6 (fun z => z), ExT.upd ((fb.trans (tOf ecd)).trans (eT5.trans (tOf e56))) hL6 (fun z => z), Ex.mut (eH5.trans e56) hLn, ?_, ?_⟩
          · rw [upd_ne (Ne.symm hLD)]
            exact e56 _ _ hD5
          · rw [upd_same, hmap]
        have tst : EvT (tAnd (tTest (tOp (fun x y H Q => y = .non ∧ Q (.bl (!decide (x = .non))) H) (tVar 4) (tC .non))) (tB (tDNotIn (tVar 4) (tVar 1)))) [some (.ref a), some (.ref D), some (.ref L), some (.ref p), some (vo v)] Hd (match v with | none => false | some n => !decide (n ∈ kn)) := by
          cases v with
          | none => exact et_is (et_and (b := false) (et_is (et_test (ev_op (ev_var rfl) ev_c rv_notN)) (b := false) rfl) fun h => by cases h) rfl
          | some n =>
            refine et_is (et_and (b := !decide (n ∈ kn)) (et_is (et_test (ev_op (ev_var rfl) ev_c rv_notN)) (b := true) rfl) fun _ H5 e5 Q2 q2 => ?_) rfl
            refine ⟨.int n, rfl, .ref D, rfl, D, _, rfl, DGet.k (k := .inl n) (e5 _ _ hDd), _, rfl, ?_⟩
            have e : (!(valV (kvL gN 0 kn) (.inl n : Key)).isSome) = !decide (n ∈ kn) := by
              rw [kvL_val]
              by_cases q : n ∈ kn
              · rw [if_pos q, decide_eq_true q]
                rfl
              · rw [if_neg q, decide_eq_false q]
                rfl
            rw [e]
            exact q2 H5 (Ex.refl _)
        refine q_when tst (fun hb H5 e5 => ?_) (fun hb H5 e5 => ?_)
        · obtain ⟨n, rfl, hn⟩ : ∃ n, v = some n ∧ n ∉ kn := by
            cases v with
            | none => cases hb
            | some n => exact ⟨n, rfl, by simpa using hb⟩
          have hD5 := e5 _ _ hDd
          have hL5 := e5 _ _ hLd
          have hlen : (kvL gN 0 kn).length < sizeLine := by
            rw [kvL_len]
            exact sz_lt (by omega)
          refine ⟨.ref D, rfl, D, _, rfl, hD5, _, _, rfl, rfl, .ref D, rfl, .int n, rfl, D, _, rfl, DPut.k (k := .inl n) hD5 hlen, ?_⟩
          have ek : putK (kvL gN 0 kn) (.inl n : Key) (.int (((kvL gN 0 kn).length : Int) + 1)) = kvL gN 0 (kn ++ [n]) := by
            rw [kvL_len]
            exact kvL_put gN hn
          have el : learn kn (some n) = kn ++ [n] := if_neg hn
          rw [ek]
          have hD7 : (L2.upd H5 D (.dK (kvL gN 0 (kn ++ [n])))) D = some (kvN (learn kn (some n))) := by
            rw [upd_same, el]
            rfl
          have hL7 : (L2.upd H5 D (.dK (kvL gN 0 (kn ++ [n])))) L = some (.lst ((keyOf (List.take i S) ++ nn).map V.int)) := by
            rw [upd_ne hLD]
            exact hL5
          refine key_app hD7 hL7 (fun m hm => ?_) (by rw [List.length_map]; exact hbk) fun H6 e6 => ?_
          · cases hm
            exact mem_learn.mpr (.inr rfl)
          · obtain ⟨f1, f2, f3, f4, f5⟩ := fin _ H6 (ExT.upd (tOf e5) hD5 (fun z => z)) (Ex.mut (fH.trans (ecd.trans e5)) hD) hD7 hL7 e6
            exact ⟨f1, f2, f3, f4, f5, _, rfl⟩
        · have el : learn kn v = kn := by
            cases v with
            | none => rfl
            | some n => exact if_pos (by simpa using hb)
          have hD5 : H5 D = some (kvN (learn kn v)) := by
            rw [el]
            exact e5 _ _ hDd
          refine key_app hD5 (e5 _ _ hLd) (fun m hm => ?_) (by rw [List.length_map]; exact hbk) fun H6 e6 => ?_
          · cases hm
            exact mem_learn.mpr (.inr rfl)
          · obtain ⟨f1, f2, f3, f4, f5⟩ := fin _ H6 (tOf e5) (fH.trans (ecd.trans e5)) hD5 (e5 _ _ hLd) e6
            exact ⟨f1, f2, f3, f4, f5, _, rfl⟩
      · rintro H3 σ' H' e3 ⟨fT, fb, fH, hDc, hLc, u4, rfl⟩
        rw [take_all] at hDc hLc
        have kl := keyl s.parts.length
        rw [take_all] at kl
        have Sp3 : StAt K H' p s := Sp.t fb
        obtain ⟨dx, wa, hp1, hw1⟩ := id Sp3.ex
        refine s_extR (R := fun v H4 => ∃ q, v = .ref q ∧ H4 q = some (.lst ((tail2 s).map V.int))) hLc (ev_var rfl) (ep_L (el_lst (ea_cons (ev_is (ev_lenT (ev_wish T hp1 (ev_var rfl)) hw1) ?_) (ea_cons (x := .int (if s.mine then 1 else 0)) ?_ ea_nil)) (by show 2 ≤ 100000; decide))) ?_
        · cases s.wish <;> rfl
        · intro H4 e4 Q2 q2
          refine (ev_mine T Sp3 (ev_var rfl)) H4 e4 _ fun H5 e5 => .inr ⟨s.mine, rfl, q2 H5 e5⟩
        · rintro v H4 e4 ⟨q, rfl, hq⟩
          have eU : ∀ H0, ExT H0 H4 → ExT H0 (L2.upd H4 L (.lst (((keyOf (S.take i) ++ nums (learnAll [] (vals (S.take i))) s.parts).map V.int) ++ (tail2 s).map V.int))) := fun H0 e0 => ExT.upd e0 (e4 _ _ hLc) (fun z => z)
          refine ⟨q, _, rfl, hq, ?_, eU _ ((eT.trans (tOf eab)).trans (fb.trans (tOf e4))), Ex.mut (fH.trans e4) hLn, ?_, ?_, _, u4, rfl⟩
          · rw [List.length_map, List.length_map]
            have : (tail2 s).length = 2 := rfl
            omega
          · rw [upd_ne (Ne.symm hLD), vals_take hs, learnAll_append]
            exact e4 _ _ hDc
          · rw [upd_same, take_next hs]
            unfold keyOf
            rw [keyGo_snoc, ← List.map_append, List.append_assoc]
    · rintro H2 σ' H' e2 ⟨eT, eH, hDa, hLa, u3, u4, rfl⟩
      rw [take_all] at hLa
      refine (ev_var rfl) H' (Ex.refl _) _ fun H3 e3 => ⟨L, _, rfl, .inl ⟨sq_of (e3 _ _ hLa), fun q hq => k _ _ ((eH.trans e3).trans (Ex.new hq)) ⟨q, rfl, upd_same⟩⟩⟩
end
end Ci

set_option linter.all false
/-! Plain Lean: related spots, keys, paths, the walk's invariant. -/
namespace Ci

/-! ### relations between values -/
structure Bi (R : Int → Int → Prop) : Prop where
  r : ∀ {a b c}, R a b → R a c → b = c
  l : ∀ {a b c}, R a c → R b c → a = b
inductive VR (R : Int → Int → Prop) : Val → Val → Prop where
  | non : VR R none none
  | som {a b : Int} : R a b → VR R (some a) (some b)
inductive PairR {α β : Type} (R : α → β → Prop) : List α → List β → Prop where
  | nil : PairR R [] []
  | cons {a b l m} : R a b → PairR R l m → PairR R (a :: l) (b :: m)
theorem PairR.len {α β : Type} {R : α → β → Prop} : ∀ {l : List α} {m : List β}, PairR R l m → l.length = m.length
  | _, _, .nil => rfl
  | _, _, .cons _ h => congrArg Nat.succ h.len
theorem PairR.mono {α β : Type} {R R' : α → β → Prop} (h : ∀ a b, R a b → R' a b) : ∀ {l : List α} {m : List β}, PairR R l m → PairR R' l m
  | _, _, .nil => .nil
  | _, _, .cons r t => .cons (h _ _ r) (t.mono h)
theorem PairR.app {α β : Type} {R : α → β → Prop} : ∀ {l : List α} {m : List β} {l' : List α} {m' : List β}, PairR R l m → PairR R l' m' → PairR R (l ++ l') (m ++ m')
  | _, _, _, _, .nil, h => h
  | _, _, _, _, .cons r t, h => .cons r (t.app h)
theorem PairR.split {α β : Type} {R : α → β → Prop} : ∀ {l : List α} {m : List β} {l' : List α} {m' : List β}, l.length = m.length → PairR R (l ++ l') (m ++ m') → PairR R l m ∧ PairR R l' m'
  | [], [], _, _, _, h => ⟨.nil, h⟩
  | a :: l, b :: m, l', m', e, h => by
    cases h with
    | cons r t =>
      obtain ⟨h1, h2⟩ := PairR.split (Nat.succ.inj e) t
      exact ⟨.cons r h1, h2⟩
  | [], _ :: _, _, _, e, _ => by cases e
  | _ :: _, [], _, _, e, _ => by cases e
theorem PairR.map {α β γ δ : Type} {R : α → β → Prop} {R' : γ → δ → Prop} {f : α → γ} {g : β → δ} (h : ∀ a b, R a b → R' (f a) (g b)) : ∀ {l : List α} {m : List β}, PairR R l m → PairR R' (l.map f) (m.map g)
  | _, _, .nil => .nil
  | _, _, .cons r t => .cons (h _ _ r) (t.map h)
theorem PairR.get {α β : Type} {R : α → β → Prop} : ∀ {l : List α} {m : List β} {i : Nat} {a : α}, PairR R l m → l[i]? = some a → ∃ b, m[i]? = some b ∧ R a b
  | _, _, _, _, .nil, e => by cases e
  | _, _, 0, _, .cons r _, e => by
    cases e
    exact ⟨_, rfl, r⟩
  | _, _, i + 1, _, .cons _ t, e => PairR.get (i := i) t e
theorem PairR.mem {α β : Type} {R : α → β → Prop} : ∀ {l : List α} {m : List β} {a : α}, PairR R l m → a ∈ l → ∃ b, b ∈ m ∧ R a b
  | _, _, _, .nil, e => by cases e
  | _, _, _, .cons r t, e => by
    rcases List.mem_cons.mp e with rfl | e
    · exact ⟨_, List.mem_cons_self, r⟩
    · obtain ⟨b, h1, h2⟩ := t.mem e
      exact ⟨b, List.mem_cons_of_mem _ h1, h2⟩
theorem PairR.flip {α β : Type} {R : α → β → Prop} : ∀ {l : List α} {m : List β}, PairR R l m → PairR (fun b a => R a b) m l
  | _, _, .nil => .nil
  | _, _, .cons r t => .cons r t.flip
theorem PairR.all {α β : Type} {R : α → β → Prop} {f : α → Bool} {g : β → Bool} (h : ∀ a b, R a b → f a = g b) : ∀ {l : List α} {m : List β}, PairR R l m → l.all f = m.all g
  | _, _, .nil => rfl
  | _, _, .cons r t => by rw [List.all_cons, List.all_cons, h _ _ r, t.all h]
section
variable {R : Int → Int → Prop}
theorem Bi.flip (B : Bi R) : Bi (fun a b => R b a) := ⟨fun h1 h2 => B.l h1 h2, fun h1 h2 => B.r h1 h2⟩
theorem VR.flip {a b : Val} (h : VR R a b) : VR (fun a b => R b a) b a := by
  cases h with
  | non => exact .non
  | som r => exact .som r
theorem VR.eq (B : Bi R) {a b c d : Val} (h : VR R a b) (k : VR R c d) : decide (a = c) = decide (b = d) := by
  have key : a = c ↔ b = d := by
    constructor
    · rintro rfl
      cases h with
      | non => cases k; rfl
      | som r => cases k with | som r2 => rw [B.r r r2]
    · rintro rfl
      cases h with
      | non => cases k; rfl
      | som r => cases k with | som r2 => rw [B.l r r2]
  by_cases e : a = c
  · rw [decide_eq_true e, decide_eq_true (key.mp e)]
  · rw [decide_eq_false e, decide_eq_false fun z => e (key.mpr z)]
theorem VR.eqp (B : Bi R) {a b c d : Val} (h : VR R a b) (k : VR R c d) : a = c ↔ b = d := by
  have := VR.eq B h k
  by_cases e : a = c
  · rw [decide_eq_true e] at this
    exact ⟨fun _ => of_decide_eq_true this.symm, fun _ => e⟩
  · rw [decide_eq_false e] at this
    exact ⟨fun z => absurd z e, fun z => absurd z (of_decide_eq_false this.symm)⟩
end
/-- states that are related -/
structure StR (R : Int → Int → Prop) (s t : St) : Prop where
  up : VR R s.up t.up
  here : VR R s.here t.here
  before : VR R s.before t.before
  wish : PairR (VR R) s.wish.toList t.wish.toList
  mine : s.mine = t.mine
inductive EvR (R : Int → Int → Prop) : Evt → Evt → Prop where
  | carry (a : Bool) : EvR R (.carry a) (.carry a)
  | plain (w : Word) : EvR R (.plain w) (.plain w)
  | val (w : Word) {a b : Int} : R a b → EvR R (.val w a) (.val w b)
section
variable {R : Int → Int → Prop} {s t : St}
theorem StR.val (h : StR R s t) (p : Sp3) : VR R (s.val p) (t.val p) := by
  cases p
  · exact h.here
  · exact h.up
  · exact h.before
theorem VR.some (h : VR R a b) : a.isSome = b.isSome := by cases h <;> rfl
theorem VR.none (h : VR R a b) : a.isNone = b.isNone := by cases h <;> rfl
theorem StR.so (B : Bi R) (h : StR R s t) (yes : Bool) (x : Test) : s.so yes x = t.so yes x := by
  cases x with
  | same p q => exact VR.eq B (h.val p) (h.val q)
  | unlike p q => exact congrArg Bool.not (VR.eq B (h.val p) (h.val q))
  | there p => exact (h.val p).some
  | gone p => exact (h.val p).none
  | mine => exact h.mine
  | free => exact congrArg Bool.not h.mine
  | yes => rfl
  | no => rfl
theorem StR.fits (B : Bi R) (h : StR R s t) (yes : Bool) (r : Row) : s.fits yes r = t.fits yes r := by
  unfold St.fits
  congr 1
  funext x
  exact h.so B yes x
theorem StR.rowIx (B : Bi R) (h : StR R s t) (yes : Bool) : ∀ (rows : List Row) (i : Nat), Ci.rowIx s yes rows i = Ci.rowIx t yes rows i
  | [], _ => rfl
  | r :: rs, i => by
    show (if s.fits yes r then (i : Int) else Ci.rowIx s yes rs (i + 1)) = (if t.fits yes r then (i : Int) else Ci.rowIx t yes rs (i + 1))
    rw [h.fits B yes r, StR.rowIx B h yes rs (i + 1)]
theorem StR.actOf (B : Bi R) (h : StR R s t) (yes : Bool) : ∀ (rows : List Row), Ci.actOf s yes rows = Ci.actOf t yes rows
  | [] => rfl
  | r :: rs => by
    show (if s.fits yes r then r.act else Ci.actOf s yes rs) = (if t.fits yes r then r.act else Ci.actOf t yes rs)
    rw [h.fits B yes r, StR.actOf B h yes rs]
theorem StR.carried (B : Bi R) (h : StR R s t) (yes : Bool) (rows : List Row) : StR R (s.carried rows yes) (t.carried rows yes) := by
  unfold St.carried
  rw [h.actOf B yes rows]
  cases Ci.actOf t yes rows with
  | take => exact ⟨h.up, h.up, h.up, h.wish, rfl⟩
  | keep => exact ⟨h.up, h.here, h.up, h.wish, h.mine⟩
  | drop => exact ⟨h.up, .non, h.up, h.wish, h.mine⟩
  | claim => exact ⟨h.up, h.here, h.up, h.wish, rfl⟩
theorem StR.happened (B : Bi R) (h : StR R s t) (rows : List Row) {e e' : Evt} (he : EvR R e e') : StR R (happened s rows e) (happened t rows e') := by
  cases he with
  | carry a => exact h.carried B a rows
  | plain w => cases w with
    | change => exact ⟨.non, h.here, h.before, h.wish, h.mine⟩
    | delete => exact ⟨.non, h.here, h.before, h.wish, h.mine⟩
    | set => exact ⟨h.up, .non, h.before, .cons .non .nil, rfl⟩
    | remove => exact ⟨h.up, .non, h.before, .cons .non .nil, rfl⟩
    | back => exact ⟨h.up, h.up, h.up, .nil, rfl⟩
  | val w r => cases w with
    | change => exact ⟨.som r, h.here, h.before, h.wish, h.mine⟩
    | delete => exact ⟨.som r, h.here, h.before, h.wish, h.mine⟩
    | set => exact ⟨h.up, .som r, h.before, .cons (.som r) .nil, rfl⟩
    | remove => exact ⟨h.up, .som r, h.before, .cons (.som r) .nil, rfl⟩
    | back => exact ⟨h.up, h.up, h.up, .nil, rfl⟩
theorem StR.wishS (h : StR R s t) : s.wish.isSome = t.wish.isSome := by
  have h1 := h.wish.len
  cases hs : s.wish <;> cases ht : t.wish <;> rw [hs, ht] at h1 <;> first | rfl | (simp at h1)
theorem StR.due (B : Bi R) (h : StR R s t) (w : Way) : VR R (s.due w) (t.due w) := by
  cases w with
  | every =>
    have h1 := h.wish
    unfold St.due
    cases hs : s.wish <;> cases ht : t.wish <;> rw [hs, ht] at h1
    · exact h.up
    · cases h1
    · cases h1
    · cases h1 with
      | cons r _ => exact r
  | changed =>
    show VR R (if s.here = s.before then s.up else s.here) (if t.here = t.before then t.up else t.here)
    by_cases e : s.here = s.before
    · rw [if_pos e, if_pos ((VR.eqp B h.here h.before).mp e)]
      exact h.up
    · rw [if_neg e, if_neg fun z => e ((VR.eqp B h.here h.before).mpr z)]
      exact h.here
theorem StR.word (B : Bi R) (h : StR R s t) (w : Way) : s.word w = t.word w := by
  have e : s.wished w = t.wished w := by
    cases w with
    | every => exact h.wishS
    | changed => exact congrArg Bool.not (VR.eq B h.here h.before)
  unfold St.word
  rw [e]
theorem StR.faults (B : Bi R) (h : StR R s t) {s' t' : St} (h' : StR R s' t') : s.faults s' = t.faults t' := by
  unfold St.faults
  have e1 : (fun w => !decide (s'.here = s.due w)) = fun w => !decide (t'.here = t.due w) := by
    funext w
    rw [VR.eq B h'.here (h.due B w)]
  have e2 : (fun w => (w, s.word w)) = fun w => (w, t.word w) := by
    funext w
    rw [h.word B w]
  rw [e1, e2]
end

/-! ### keys -/
section
variable {R : Int → Int → Prop}
theorem idx_eq (B : Bi R) {a b : Int} (r : R a b) : ∀ {l m : List Int}, PairR R l m → l.idxOf a = m.idxOf b
  | _, _, .nil => rfl
  | _, _, .cons (a := x) (b := y) (l := l) (m := m) h t => by
    rw [List.idxOf_cons, List.idxOf_cons, idx_eq B r t]
    by_cases e : x = a
    · subst e
      have e2 := B.r h r
      subst e2
      rw [beq_self_eq_true, beq_self_eq_true]
    · have e2 : ¬ y = b := fun z => e (B.l h (by rw [z]; exact r))
      rw [beq_eq_false_iff_ne.mpr e, beq_eq_false_iff_ne.mpr e2]
theorem mem_iff (B : Bi R) {a b : Int} (r : R a b) {l m : List Int} (h : PairR R l m) : a ∈ l ↔ b ∈ m := by
  rw [← List.idxOf_lt_length_iff, ← List.idxOf_lt_length_iff, idx_eq B r h, h.len]
theorem learn_rel (B : Bi R) {l m : List Int} (h : PairR R l m) {v u : Val} (r : VR R v u) : PairR R (learn l v) (learn m u) := by
  cases r with
  | non => exact h
  | @som a b r =>
    show PairR R (if a ∈ l then l else l ++ [a]) (if b ∈ m then m else m ++ [b])
    by_cases e : a ∈ l
    · rw [if_pos e, if_pos ((mem_iff B r h).mp e)]
      exact h
    · rw [if_neg e, if_neg fun z => e ((mem_iff B r h).mpr z)]
      exact h.app (.cons r .nil)
theorem nums_rel (B : Bi R) : ∀ {p q : List Val} {l m : List Int}, PairR R l m → PairR (VR R) p q → nums l p = nums m q ∧ PairR R (learnAll l p) (learnAll m q)
  | _, _, _, _, h, .nil => ⟨rfl, h⟩
  | _, _, l, m, h, .cons (a := v) (b := u) (l := p) (m := q) r t => by
    have h1 := learn_rel B h r
    obtain ⟨h2, h3⟩ := nums_rel B h1 t
    refine ⟨?_, h3⟩
    show numV (learn l v) v :: nums (learn l v) p = numV (learn m u) u :: nums (learn m u) q
    rw [h2]
    congr 1
    cases r with
    | non => rfl
    | @som a b r =>
      show ((learn l (some a)).idxOf a : Int) + 1 = ((learn m (some b)).idxOf b : Int) + 1
      rw [idx_eq B r h1]
theorem StR.parts {s t : St} (h : StR R s t) : PairR (VR R) s.parts t.parts := .cons h.up (.cons h.here (.cons h.before h.wish))
theorem key_go (B : Bi R) : ∀ {S T : Spot} {l m : List Int}, PairR R l m → PairR (StR R) S T → keyGo l S = keyGo m T
  | _, _, _, _, _, .nil => rfl
  | _, _, l, m, h, .cons (a := s) (b := t) (l := S) (m := T) r q => by
    obtain ⟨h2, h3⟩ := nums_rel B h r.parts
    show nums l s.parts ++ (tail2 s ++ keyGo (learnAll l s.parts) S) = nums m t.parts ++ (tail2 t ++ keyGo (learnAll m t.parts) T)
    have e : tail2 s = tail2 t := by
      unfold tail2
      rw [r.wishS, r.mine]
    rw [h2, e, key_go B h3 q]
/-- related spots have one key -/
theorem key_of_rel (B : Bi R) {S T : Spot} (h : PairR (StR R) S T) : keyOf S = keyOf T := key_go B .nil h
end

/-! ### from a key to a relation -/
def IdR (l m : List Int) : Int → Int → Prop := fun a b => ∃ i : Nat, l[i]? = some a ∧ m[i]? = some b
theorem nd_get {l : List Int} (nd : l.Nodup) {i j : Nat} {a : Int} (h1 : l[i]? = some a) (h2 : l[j]? = some a) : i = j := by
  obtain ⟨hi, e1⟩ := List.getElem?_eq_some_iff.mp h1
  obtain ⟨hj, e2⟩ := List.getElem?_eq_some_iff.mp h2
  rcases Nat.lt_trichotomy i j with h | h | h
  · exact absurd (e1.trans e2.symm) (List.pairwise_iff_getElem.mp nd i j hi hj h)
  · exact h
  · exact absurd (e2.trans e1.symm) (List.pairwise_iff_getElem.mp nd j i hj hi h)
theorem idR_bi {l m : List Int} (nl : l.Nodup) (nm : m.Nodup) : Bi (IdR l m) where
  r := fun ⟨i, h1, h2⟩ ⟨j, h3, h4⟩ => by
    have e := nd_get nl h1 h3
    subst e
    rw [h2] at h4
    exact Option.some.inj h4
  l := fun ⟨i, h1, h2⟩ ⟨j, h3, h4⟩ => by
    have e := nd_get nm h2 h4
    subst e
    rw [h1] at h3
    exact Option.some.inj h3
theorem learn_nd {l : List Int} (nd : l.Nodup) (v : Val) : (learn l v).Nodup := by
  cases v with
  | none => exact nd
  | some a =>
    show (if a ∈ l then l else l ++ [a]).Nodup
    by_cases e : a ∈ l
    · rw [if_pos e]
      exact nd
    · rw [if_neg e]
      refine List.nodup_append.mpr ⟨nd, by simp, fun x hx y hy => ?_⟩
      rw [List.mem_singleton.mp hy]
      exact fun z => e (by rw [← z]; exact hx)
theorem learn_pre (l : List Int) (v : Val) : ∃ x, learn l v = l ++ x := by
  cases v with
  | none => exact ⟨[], (List.append_nil _).symm⟩
  | some a =>
    show ∃ x, (if a ∈ l then l else l ++ [a]) = l ++ x
    by_cases e : a ∈ l
    · rw [if_pos e]
      exact ⟨[], (List.append_nil _).symm⟩
    · rw [if_neg e]
      exact ⟨[a], rfl⟩
theorem learnAll_pre (p : List Val) : ∀ (l : List Int), ∃ x, learnAll l p = l ++ x := by
  induction p with
  | nil => exact fun l => ⟨[], (List.append_nil _).symm⟩
  | cons v p ih =>
    intro l
    obtain ⟨x, hx⟩ := learn_pre l v
    obtain ⟨y, hy⟩ := ih (learn l v)
    refine ⟨x ++ y, ?_⟩
    show learnAll (learn l v) p = _
    rw [hy, hx, List.append_assoc]
theorem IdR.ext {l m x y : List Int} {a b : Int} (h : IdR l m a b) : IdR (l ++ x) (m ++ y) a b := by
  obtain ⟨i, h1, h2⟩ := h
  refine ⟨i, ?_, ?_⟩
  · rw [List.getElem?_append_left (List.getElem?_eq_some_iff.mp h1).1]
    exact h1
  · rw [List.getElem?_append_left (List.getElem?_eq_some_iff.mp h2).1]
    exact h2
theorem idx_get {l : List Int} {a : Int} (h : a ∈ l) : l[l.idxOf a]? = some a := by
  have hl := List.idxOf_lt_length_iff.mpr h
  rw [List.getElem?_eq_getElem hl, List.getElem_idxOf hl]
theorem learn_mem (l : List Int) (a : Int) : a ∈ learn l (some a) := mem_learn.mpr (.inr rfl)
theorem learn_len_iff (l : List Int) (a : Int) : ((learn l (some a)).idxOf a < l.length ∧ (learn l (some a)).length = l.length) ∨ ((learn l (some a)).idxOf a = l.length ∧ (learn l (some a)).length = l.length + 1) := by
  by_cases e : a ∈ l
  · have e1 : learn l (some a) = l := if_pos e
    rw [e1]
    exact .inl ⟨List.idxOf_lt_length_iff.mpr e, rfl⟩
  · have e1 : learn l (some a) = l ++ [a] := if_neg e
    rw [e1]
    refine .inr ⟨?_, by simp⟩
    rw [List.idxOf_append, if_neg e]
    simp
theorem rel_of_nums : ∀ (p q : List Val) (l m : List Int), l.length = m.length → l.Nodup → m.Nodup → p.length = q.length → nums l p = nums m q →
    (learnAll l p).length = (learnAll m q).length ∧ (learnAll l p).Nodup ∧ (learnAll m q).Nodup ∧ PairR (VR (IdR (learnAll l p) (learnAll m q))) p q
  | [], [], l, m, hl, nl, nm, _, _ => ⟨hl, nl, nm, .nil⟩
  | v :: p, u :: q, l, m, hl, nl, nm, hn, he => by
    have he' : numV (learn l v) v :: nums (learn l v) p = numV (learn m u) u :: nums (learn m u) q := he
    obtain ⟨h0, h1⟩ := List.cons.inj he'
    have key : (learn l v).length = (learn m u).length ∧ VR (IdR (learn l v) (learn m u)) v u := by
      cases v with
      | none =>
        cases u with
        | none => exact ⟨hl, .non⟩
        | some b =>
          exfalso
          have h2 : (0 : Int) = ((learn m (some b)).idxOf b : Int) + 1 := h0
          omega
      | some a =>
        cases u with
        | none =>
          exfalso
          have h2 : ((learn l (some a)).idxOf a : Int) + 1 = 0 := h0
          omega
        | some b =>
          have h2 : ((learn l (some a)).idxOf a : Int) + 1 = ((learn m (some b)).idxOf b : Int) + 1 := h0
          have h3 : (learn l (some a)).idxOf a = (learn m (some b)).idxOf b := by omega
          refine ⟨?_, .som ⟨_, idx_get (learn_mem l a), by rw [h3]; exact idx_get (learn_mem m b)⟩⟩
          rcases learn_len_iff l a with ⟨x1, x2⟩ | ⟨x1, x2⟩ <;> rcases learn_len_iff m b with ⟨y1, y2⟩ | ⟨y1, y2⟩ <;> omega
    obtain ⟨r1, r2, r3, r4⟩ := rel_of_nums p q (learn l v) (learn m u) key.1 (learn_nd nl v) (learn_nd nm u) (Nat.succ.inj hn) h1
    refine ⟨r1, r2, r3, .cons ?_ r4⟩
    obtain ⟨x, hx⟩ := learnAll_pre p (learn l v)
    obtain ⟨y, hy⟩ := learnAll_pre q (learn m u)
    show VR (IdR (learnAll (learn l v) p) (learnAll (learn m u) q)) v u
    rw [hx, hy]
    cases key.2 with
    | non => exact .non
    | som r => exact .som r.ext
  | [], _ :: _, _, _, _, _, _, e, _ => by cases e
  | _ :: _, [], _, _, _, _, _, e, _ => by cases e
end Ci

set_option linter.all false
/-! Plain Lean: what equal keys tell; how many keys there are. -/
namespace Ci
theorem tail2_inj {s t : St} (h : tail2 s = tail2 t) : s.wish.isSome = t.wish.isSome ∧ s.mine = t.mine := by
  unfold tail2 at h
  obtain ⟨h1, h2⟩ := List.cons.inj h
  obtain ⟨h3, _⟩ := List.cons.inj h2
  constructor
  · cases hs : s.wish.isSome <;> cases ht : t.wish.isSome <;> rw [hs, ht] at h1 <;> first | rfl | (simp at h1)
  · cases hs : s.mine <;> cases ht : t.mine <;> rw [hs, ht] at h3 <;> first | rfl | (simp at h3)
theorem parts_length (s : St) : s.parts.length = if s.wish.isSome then 4 else 3 := by
  unfold St.parts
  cases s.wish <;> rfl
theorem nums_length : ∀ (p : List Val) (l : List Int), (nums l p).length = p.length
  | [], _ => rfl
  | v :: p, l => congrArg Nat.succ (nums_length p (learn l v))
theorem nums_append (q : List Val) : ∀ (p : List Val) (l : List Int), nums l (p ++ q) = nums l p ++ nums (learnAll l p) q
  | [], _ => rfl
  | v :: p, l => by
    show numV (learn l v) v :: nums (learn l v) (p ++ q) = (numV (learn l v) v :: nums (learn l v) p) ++ _
    rw [nums_append q p]
    rfl
theorem vals_snoc (S : Spot) (s : St) : vals (S ++ [s]) = vals S ++ s.parts := by
  unfold vals
  rw [List.flatMap_append]
  simp
theorem keyGo_app1 (s : St) : ∀ (S : Spot) (l : List Int), keyGo l (S ++ [s]) = keyGo l S ++ (nums (learnAll l (vals S)) s.parts ++ tail2 s)
  | [], l => by
    show nums l s.parts ++ (tail2 s ++ []) = [] ++ (nums l s.parts ++ tail2 s)
    rw [List.append_nil, List.nil_append]
  | t :: S, l => by
    show nums l t.parts ++ (tail2 t ++ keyGo (learnAll l t.parts) (S ++ [s])) = (nums l t.parts ++ (tail2 t ++ keyGo (learnAll l t.parts) S)) ++ _
    have e : learnAll l (vals (t :: S)) = learnAll (learnAll l t.parts) (vals S) := by
      unfold vals
      rw [List.flatMap_cons, learnAll_append]
    rw [keyGo_app1 s S, e]
    simp only [List.append_assoc]
/-- the flags of states -/
def FlagR (s t : St) : Prop := s.wish.isSome = t.wish.isSome ∧ s.mine = t.mine
theorem key_parse : ∀ (n : Nat) (S T : Spot), S.length = n → T.length = n → keyOf S = keyOf T → PairR FlagR S T ∧ nums [] (vals S) = nums [] (vals T)
  | 0, S, T, hs, ht, _ => by
    cases List.length_eq_zero_iff.mp hs
    cases List.length_eq_zero_iff.mp ht
    exact ⟨.nil, rfl⟩
  | n + 1, S, T, hs, ht, h => by
    rcases List.eq_nil_or_concat S with rfl | ⟨S', s, rfl⟩
    · cases hs
    rcases List.eq_nil_or_concat T with rfl | ⟨T', t, rfl⟩
    · cases ht
    rw [List.length_concat] at hs ht
    rw [List.concat_eq_append, List.concat_eq_append] at h ⊢
    unfold keyOf at h
    rw [keyGo_app1, keyGo_app1, ← List.append_assoc, ← List.append_assoc] at h
    obtain ⟨h1, h2⟩ := List.append_inj' h rfl
    have fl := tail2_inj h2
    have pl : s.parts.length = t.parts.length := by rw [parts_length, parts_length, fl.1]
    obtain ⟨h3, h4⟩ := List.append_inj' h1 (by rw [nums_length, nums_length, pl])
    obtain ⟨h5, h6⟩ := key_parse n S' T' (Nat.succ.inj hs) (Nat.succ.inj ht) h3
    refine ⟨h5.app (.cons fl .nil), ?_⟩
    rw [vals_snoc, vals_snoc, nums_append, nums_append, h6, h4]
theorem flags_len : ∀ {S T : Spot}, PairR FlagR S T → (vals S).length = (vals T).length
  | _, _, .nil => rfl
  | _, _, .cons (a := s) (b := t) (l := S) (m := T) r h => by
    unfold vals
    rw [List.flatMap_cons, List.flatMap_cons, List.length_append, List.length_append, parts_length, parts_length, r.1]
    exact congrArg _ (flags_len h)
theorem wish_list {R : Int → Int → Prop} {s t : St} (f : FlagR s t) (h : PairR (VR R) s.parts t.parts) : StR R s t := by
  have e : s.wish.toList.length = t.wish.toList.length := by
    have := f.1
    cases hs : s.wish <;> cases ht : t.wish <;> rw [hs, ht] at this <;> first | rfl | (cases this)
  cases h with
  | cons h1 h => cases h with
    | cons h2 h => cases h with
      | cons h3 h => exact ⟨h1, h2, h3, h, f.2⟩
theorem states_rel {R : Int → Int → Prop} : ∀ {S T : Spot}, PairR FlagR S T → PairR (VR R) (vals S) (vals T) → PairR (StR R) S T
  | _, _, .nil, _ => .nil
  | _, _, .cons (a := s) (b := t) (l := S) (m := T) f h, q => by
    unfold vals at q
    rw [List.flatMap_cons, List.flatMap_cons] at q
    obtain ⟨q1, q2⟩ := PairR.split (by rw [parts_length, parts_length, f.1]) q
    exact .cons (wish_list f q1) (states_rel h q2)
/-- equal keys: a relation -/
theorem rel_of_key {S T : Spot} (hl : S.length = T.length) (h : keyOf S = keyOf T) : ∃ R, Bi R ∧ PairR (StR R) S T := by
  obtain ⟨h1, h2⟩ := key_parse S.length S T rfl hl.symm h
  obtain ⟨r1, r2, r3, r4⟩ := rel_of_nums (vals S) (vals T) [] [] rfl List.nodup_nil List.nodup_nil (flags_len h1) h2
  exact ⟨_, idR_bi r2 r3, states_rel h1 r4⟩

/-! ### how many keys there are -/
theorem nodup_sub {α : Type} [BEq α] [LawfulBEq α] : ∀ (l m : List α), l.Nodup → (∀ x ∈ l, x ∈ m) → l.length ≤ m.length
  | [], m, _, _ => Nat.zero_le _
  | x :: l, m, nd, sub => by
    have hx := sub x List.mem_cons_self
    have nd2 := List.nodup_cons.mp nd
    have h1 := nodup_sub l (m.erase x) nd2.2 fun y hy => (List.mem_erase_of_ne (fun e => nd2.1 (by rw [← e]; exact hy))).mpr (sub y (List.mem_cons_of_mem _ hy))
    rw [List.length_erase_of_mem hx] at h1
    have := List.length_pos_of_mem hx
    rw [List.length_cons]
    omega
theorem few_nats {l : List Nat} {B : Nat} (nd : l.Nodup) (h : ∀ x ∈ l, x < B) : l.length ≤ B := by
  have := nodup_sub l (List.range B) nd fun x hx => List.mem_range.mpr (h x hx)
  rwa [List.length_range] at this
/-- numbers, the i-th at most k + i, as one number -/
def codeN (k : Nat) : List Int → Nat
  | [] => 0
  | x :: r => x.toNat + (k + 1) * codeN (k + 1) r
inductive Bd : Nat → List Int → Prop where
  | nil (k : Nat) : Bd k []
  | cons {k : Nat} {x : Int} {r : List Int} : 0 ≤ x → x ≤ k → Bd (k + 1) r → Bd k (x :: r)
def prodN (k : Nat) : Nat → Nat
  | 0 => 1
  | n + 1 => (k + 1) * prodN (k + 1) n
theorem codeN_lt : ∀ {k : Nat} {l : List Int}, Bd k l → codeN k l < prodN k l.length
  | _, _, .nil k => Nat.zero_lt_one
  | k, _, .cons (x := x) (r := r) h1 h2 h3 => by
    have ih := codeN_lt h3
    show x.toNat + (k + 1) * codeN (k + 1) r < (k + 1) * prodN (k + 1) r.length
    have h4 : x.toNat < k + 1 := by omega
    calc x.toNat + (k + 1) * codeN (k + 1) r < (k + 1) + (k + 1) * codeN (k + 1) r := Nat.add_lt_add_right h4 _
      _ = (k + 1) * (codeN (k + 1) r + 1) := by rw [Nat.mul_add, Nat.mul_one, Nat.add_comm]
      _ ≤ (k + 1) * prodN (k + 1) r.length := Nat.mul_le_mul_left _ ih
theorem codeN_inj : ∀ {k : Nat} {l m : List Int}, Bd k l → Bd k m → l.length = m.length → codeN k l = codeN k m → l = m
  | _, _, _, .nil k, .nil _, _, _ => rfl
  | _, _, _, .nil _, .cons _ _ _, e, _ => by cases e
  | _, _, _, .cons _ _ _, .nil _, e, _ => by cases e
  | k, _, _, .cons (x := x) (r := r) h1 h2 h3, .cons (x := y) (r := q) g1 g2 g3, e, c => by
    have c' : x.toNat + (k + 1) * codeN (k + 1) r = y.toNat + (k + 1) * codeN (k + 1) q := c
    have hx : x.toNat < k + 1 := by omega
    have hy : y.toNat < k + 1 := by omega
    have m1 : (x.toNat + (k + 1) * codeN (k + 1) r) % (k + 1) = x.toNat := by rw [Nat.add_mul_mod_self_left, Nat.mod_eq_of_lt hx]
    have m2 : (y.toNat + (k + 1) * codeN (k + 1) q) % (k + 1) = y.toNat := by rw [Nat.add_mul_mod_self_left, Nat.mod_eq_of_lt hy]
    have e1 : x.toNat = y.toNat := by rw [← m1, ← m2, c']
    have e2 : codeN (k + 1) r = codeN (k + 1) q := by
      have : (k + 1) * codeN (k + 1) r = (k + 1) * codeN (k + 1) q := by omega
      exact Nat.eq_of_mul_eq_mul_left (Nat.succ_pos k) this
    rw [codeN_inj h3 g3 (Nat.succ.inj e) e2, show x = y by omega]
theorem bd_nums : ∀ (p : List Val) (l : List Int), Bd (l.length + 1) (nums l p)
  | [], l => .nil _
  | v :: p, l => by
    have h1 := learn_len l v
    have ih := bd_nums p (learn l v)
    have up : ∀ {k k' : Nat} {q : List Int}, k ≤ k' → Bd k q → Bd k' q := by
      intro k k' q hk h
      induction h generalizing k' with
      | nil => exact .nil _
      | cons a b c ih => exact .cons a (by omega) (ih (by omega))
    refine .cons ?_ ?_ (up (by omega) ih)
    · cases v with
      | none => exact Int.le_refl _
      | some a =>
        show 0 ≤ ((learn l (some a)).idxOf a : Int) + 1
        omega
    · cases v with
      | none =>
        show (0 : Int) ≤ _
        omega
      | some a =>
        show ((learn l (some a)).idxOf a : Int) + 1 ≤ ((l.length + 1 : Nat) : Int)
        have := List.idxOf_lt_length_iff.mpr (learn_mem l a)
        omega
def b2 (b : Bool) : Nat := if b then 1 else 0
theorem b2_le (b : Bool) : b2 b ≤ 1 := by cases b <;> decide
theorem b2_inj {a b : Bool} (h : b2 a = b2 b) : a = b := by
  cases a <;> cases b <;> first | rfl | (exact absurd h (by decide))
def flagC : Spot → Nat
  | [] => 0
  | s :: r => b2 s.wish.isSome + 2 * (b2 s.mine + 2 * flagC r)
theorem flagC_inj : ∀ {S T : Spot}, S.length = T.length → flagC S = flagC T → PairR FlagR S T
  | [], [], _, _ => .nil
  | [], _ :: _, e, _ => by cases e
  | _ :: _, [], e, _ => by cases e
  | s :: S, t :: T, e, h => by
    have h' : b2 s.wish.isSome + 2 * (b2 s.mine + 2 * flagC S) = b2 t.wish.isSome + 2 * (b2 t.mine + 2 * flagC T) := h
    have l1 := b2_le s.wish.isSome
    have l2 := b2_le s.mine
    have l3 := b2_le t.wish.isSome
    have l4 := b2_le t.mine
    exact .cons ⟨b2_inj (by omega), b2_inj (by omega)⟩ (flagC_inj (Nat.succ.inj e) (by omega))
theorem flagC_lt : ∀ (S : Spot), flagC S < 4 ^ S.length
  | [] => Nat.zero_lt_one
  | s :: S => by
    have h := flagC_lt S
    have l1 := b2_le s.wish.isSome
    have l2 := b2_le s.mine
    show b2 s.wish.isSome + 2 * (b2 s.mine + 2 * flagC S) < 4 ^ (S.length + 1)
    rw [Nat.pow_succ]
    omega
def codeS (S : Spot) : Nat := flagC S + 16 * codeN 1 (nums [] (vals S))
theorem key_of_flags : ∀ {S T : Spot} {l m : List Int}, PairR FlagR S T → nums l (vals S) = nums m (vals T) → keyGo l S = keyGo m T
  | _, _, _, _, .nil, _ => rfl
  | _, _, l, m, .cons (a := s) (b := t) (l := S) (m := T) f h, e => by
    unfold vals at e
    rw [List.flatMap_cons, List.flatMap_cons, nums_append, nums_append] at e
    obtain ⟨e1, e2⟩ := List.append_inj e (by rw [nums_length, nums_length, parts_length, parts_length, f.1])
    show nums l s.parts ++ (tail2 s ++ keyGo (learnAll l s.parts) S) = nums m t.parts ++ (tail2 t ++ keyGo (learnAll m t.parts) T)
    have et : tail2 s = tail2 t := by
      unfold tail2
      rw [f.1, f.2]
    rw [e1, et, key_of_flags h e2]
theorem codeS_key {S T : Spot} (hs : S.length ≤ 2) (hl : S.length = T.length) (h : codeS S = codeS T) : keyOf S = keyOf T := by
  have lim : ∀ U : Spot, U.length ≤ 2 → flagC U < 16 := fun U hU => Nat.lt_of_lt_of_le (flagC_lt U) (Nat.pow_le_pow_right (by decide) hU)
  have f1 := lim S hs
  have f2 := lim T (by omega)
  unfold codeS at h
  have e1 : flagC S = flagC T := by omega
  have e2 : codeN 1 (nums [] (vals S)) = codeN 1 (nums [] (vals T)) := by omega
  have f := flagC_inj hl e1
  exact key_of_flags f (codeN_inj (bd_nums _ []) (bd_nums _ []) (by rw [nums_length, nums_length, flags_len f]) e2)
theorem prodN_mono : ∀ (n m k : Nat), n ≤ m → prodN k n ≤ prodN k m
  | 0, 0, _, _ => Nat.le_refl _
  | 0, m + 1, k, _ => by
    have := prodN_mono 0 m (k + 1) (Nat.zero_le _)
    show 1 ≤ (k + 1) * prodN (k + 1) m
    have h1 : 1 ≤ prodN (k + 1) m := this
    exact Nat.le_trans h1 (Nat.le_mul_of_pos_left _ (Nat.succ_pos k))
  | n + 1, m + 1, k, h => Nat.mul_le_mul_left _ (prodN_mono n m (k + 1) (Nat.le_of_succ_le_succ h))
  | n + 1, 0, _, h => by omega
theorem codeS_lt {S : Spot} (hs : S.length ≤ 2) : codeS S < 5806080 := by
  have f1 : flagC S < 16 := Nat.lt_of_lt_of_le (flagC_lt S) (Nat.pow_le_pow_right (by decide) hs)
  have h1 := codeN_lt (bd_nums (vals S) [])
  rw [nums_length] at h1
  have h2 := vals_len S
  have h3 := prodN_mono (vals S).length 8 1 (by omega)
  have h4 : prodN 1 8 = 362880 := by decide
  have h5 : codeN 1 (nums [] (vals S)) < prodN 1 (vals S).length := h1
  unfold codeS
  omega
theorem codeS_lt1 {S : Spot} (hs : S.length ≤ 1) : codeS S < 1920 := by
  have f1 : flagC S < 16 := Nat.lt_of_lt_of_le (flagC_lt S) (show 4 ^ S.length ≤ 4 ^ 2 from Nat.pow_le_pow_right (by decide) (by omega))
  have h1 := codeN_lt (bd_nums (vals S) [])
  rw [nums_length] at h1
  have h2 := vals_len S
  have h3 := prodN_mono (vals S).length 4 1 (by omega)
  have h4 : prodN 1 4 = 120 := by decide
  have h5 : codeN 1 (nums [] (vals S)) < prodN 1 (vals S).length := h1
  unfold codeS
  omega
theorem few_keys1 {n : Nat} (hn : n ≤ 1) {L : List Spot} (hl : ∀ S ∈ L, S.length = n) (nd : (L.map keyOf).Nodup) : L.length ≤ 1920 := by
  have nc : (L.map codeS).Nodup := by
    refine List.pairwise_map.mpr ?_
    refine List.Pairwise.imp_of_mem ?_ (List.pairwise_map.mp nd)
    intro S T hS hT hne e
    exact hne (codeS_key (by rw [hl S hS]; exact Nat.le_trans hn (by decide)) (by rw [hl S hS, hl T hT]) e)
  have := few_nats nc (B := 1920) fun x hx => by
    obtain ⟨S, hS, rfl⟩ := List.mem_map.mp hx
    exact codeS_lt1 (by rw [hl S hS]; exact hn)
  rwa [List.length_map] at this
/-- spots with different keys are few -/
theorem few_keys {n : Nat} (hn : n ≤ 2) {L : List Spot} (hl : ∀ S ∈ L, S.length = n) (nd : (L.map keyOf).Nodup) : L.length ≤ 5806080 := by
  have nc : (L.map codeS).Nodup := by
    refine List.pairwise_map.mpr ?_
    refine List.Pairwise.imp_of_mem ?_ (List.pairwise_map.mp nd)
    intro S T hS hT hne e
    exact hne (codeS_key (by rw [hl S hS]; exact hn) (by rw [hl S hS, hl T hT]) e)
  have := few_nats nc (B := 5806080) fun x hx => by
    obtain ⟨S, hS, rfl⟩ := List.mem_map.mp hx
    exact codeS_lt (by rw [hl S hS]; exact hn)
  rwa [List.length_map] at this
end Ci

set_option linter.all false
/-! Plain Lean: paths; what the walk keeps; what it tells at its end. -/
namespace Ci
/-- a rule: its rows -/
abbrev Rl := List Row
abbrev Hist := Val × List Evt
abbrev Ent := Spot × Hist
def stepS (rs : List Rl) (S : Spot) (e : Evt) : Spot := (S.zip rs).map fun p => happened p.1 p.2 e
def firstS (rs : List Rl) (v : Val) : Spot := rs.map fun _ => St.first v
def agree : Spot → Bool
  | [] => true
  | s :: r => (s :: r).all fun t => decide (t.here = s.here)
def isStart (v : Val) : Prop := v = some 1 ∨ v = none
inductive Path (rs : List Rl) (ws : List Word) : Spot → Hist → Prop where
  | start {v : Val} : isStart v → Path rs ws (firstS rs v) (v, [])
  | step {S : Spot} {v : Val} {es : List Evt} {e : Evt} : Path rs ws S (v, es) → agree S = true → e.inW ws → Path rs ws (stepS rs S e) (v, es ++ [e])
theorem path_len {rs : List Rl} {ws : List Word} {S : Spot} {h : Hist} (p : Path rs ws S h) : S.length = rs.length := by
  induction p with
  | start _ => exact List.length_map _
  | step _ _ _ ih =>
    unfold stepS
    rw [List.length_map, List.length_zip, ih, Nat.min_self]
theorem inW_mono {ws ws' : List Word} (h : ∀ w ∈ ws, w ∈ ws') {e : Evt} (he : e.inW ws) : e.inW ws' := by
  cases e with
  | carry a => trivial
  | val w i => exact ⟨h _ he.1, he.2⟩
  | plain w => exact ⟨h _ he.1, he.2⟩
theorem path_mono {rs : List Rl} {ws ws' : List Word} (h : ∀ w ∈ ws, w ∈ ws') {S : Spot} {k : Hist} (p : Path rs ws S k) : Path rs ws' S k := by
  induction p with
  | start hv => exact .start hv
  | step _ ha he ih => exact .step ih ha (inW_mono h he)

/-! ### related spots -/
section
variable {R : Int → Int → Prop}
theorem flags_of : ∀ {S T : Spot}, PairR (StR R) S T → PairR FlagR S T
  | _, _, .nil => .nil
  | _, _, .cons r h => .cons ⟨r.wishS, r.mine⟩ (flags_of h)
theorem vals_of : ∀ {S T : Spot}, PairR (StR R) S T → PairR (VR R) (vals S) (vals T)
  | _, _, .nil => .nil
  | _, _, .cons (a := s) (b := t) (l := S) (m := T) r h => by
    unfold vals
    rw [List.flatMap_cons, List.flatMap_cons]
    exact r.parts.app (vals_of h)
theorem step_rel (B : Bi R) {e e' : Evt} (he : EvR R e e') : ∀ {rs : List Rl} {S T : Spot}, PairR (StR R) S T → PairR (StR R) (stepS rs S e) (stepS rs T e')
  | [], S, T, h => by
    unfold stepS
    rw [List.zip_nil_right, List.zip_nil_right]
    exact .nil
  | _ :: _, _, _, .nil => .nil
  | r :: rs, _, _, .cons (l := S) (m := T) h1 h2 => .cons (h1.happened B r he) (step_rel B he h2)
theorem agree_rel (B : Bi R) {S T : Spot} (h : PairR (StR R) S T) : agree S = agree T := by
  cases h with
  | nil => rfl
  | @cons s t0 l m r t =>
    show ((s :: l).all fun t => decide (t.here = s.here)) = ((t0 :: m).all fun t => decide (t.here = t0.here))
    exact PairR.all (fun a b hab => VR.eq B hab.here r.here) (.cons r t)
theorem vr_in {p q p0 q0 : List Val} (hp : ∀ x ∈ p, x ∈ p0) (hq : ∀ x ∈ q, x ∈ q0) (h : PairR (VR R) p q) : PairR (VR fun a b => R a b ∧ some a ∈ p0 ∧ some b ∈ q0) p q := by
  induction h with
  | nil => exact .nil
  | cons r t ih =>
    refine .cons ?_ (ih (fun x hx => hp x (List.mem_cons_of_mem _ hx)) fun x hx => hq x (List.mem_cons_of_mem _ hx))
    cases r with
    | non => exact .non
    | som r => exact .som ⟨r, hp _ List.mem_cons_self, hq _ List.mem_cons_self⟩
/-- a fresh value of the one, a fresh value of the other -/
theorem fresh_rel (B : Bi R) {S T : Spot} (h : PairR (StR R) S T) {v f : Int} (hv : some v ∉ vals S) (hf : some f ∉ vals T) : ∃ R', Bi R' ∧ PairR (StR R') S T ∧ R' v f := by
  refine ⟨fun a b => (R a b ∧ some a ∈ vals S ∧ some b ∈ vals T) ∨ (a = v ∧ b = f), ⟨?_, ?_⟩, ?_, .inr ⟨rfl, rfl⟩⟩
  · rintro a b c (⟨h1, h2, h3⟩ | ⟨rfl, rfl⟩) (⟨k1, k2, k3⟩ | ⟨k1, rfl⟩)
    · exact B.r h1 k1
    · exact absurd (by rw [← k1]; exact h2) hv
    · exact absurd k2 hv
    · rfl
  · rintro a b c (⟨h1, h2, h3⟩ | ⟨rfl, rfl⟩) (⟨k1, k2, k3⟩ | ⟨rfl, k1⟩)
    · exact B.l h1 k1
    · exact absurd (by rw [← k1]; exact h3) hf
    · exact absurd k3 hf
    · rfl
  · refine states_rel (flags_of h) ?_
    have h1 := vr_in (p0 := vals S) (q0 := vals T) (fun _ h => h) (fun _ h => h) (vals_of h)
    refine h1.mono fun a b r => ?_
    cases r with
    | non => exact .non
    | som r => exact .som (.inl r)
theorem some_fresh (S : Spot) : ∃ f : Int, some f ∉ vals S := by
  have key : ∀ l : List Val, ∃ f : Int, ∀ x : Int, some x ∈ l → x < f := fun l => by
    induction l with
    | nil => exact ⟨0, fun x h => by cases h⟩
    | cons v l ih =>
      obtain ⟨f, hf⟩ := ih
      cases v with
      | none => exact ⟨f, fun x h => hf x ((List.mem_cons.mp h).resolve_left fun z => by cases z)⟩
      | some a =>
        refine ⟨max f (a + 1), fun x h => ?_⟩
        rcases List.mem_cons.mp h with z | z
        · cases z
          omega
        · have := hf x z
          omega
  obtain ⟨f, hf⟩ := key (vals S)
  exact ⟨f, fun h => Int.lt_irrefl _ (hf f h)⟩
/-- an event of the one, the event of the other -/
theorem event_rel (B : Bi R) {S T : Spot} (h : PairR (StR R) S T) (e : Evt) : ∃ R' e', Bi R' ∧ PairR (StR R') S T ∧ EvR R' e e' := by
  cases e with
  | carry a => exact ⟨R, _, B, h, .carry a⟩
  | plain w => exact ⟨R, _, B, h, .plain w⟩
  | val w v =>
    by_cases hv : some v ∈ vals S
    · obtain ⟨u, hu, r⟩ := (vals_of h).mem hv
      cases r with
      | som r => exact ⟨R, _, B, h, .val w r⟩
    · obtain ⟨f, hf⟩ := some_fresh T
      obtain ⟨R', h1, h2, h3⟩ := fresh_rel B h hv hf
      exact ⟨R', _, h1, h2, .val w h3⟩
theorem EvR.inW {e e' : Evt} (h : EvR R e e') {ws : List Word} (he : e.inW ws) : e'.inW ws := by
  cases h with
  | carry a => trivial
  | plain w => exact he
  | val w r => exact he
end
theorem eqR_bi : Bi (fun a b : Int => a = b) := ⟨fun h1 h2 => h1 ▸ h2, fun h1 h2 => by rw [h1, h2]⟩
theorem vr_refl : ∀ v : Val, VR (fun a b => a = b) v v
  | none => .non
  | some _ => .som rfl
theorem pair_refl {α : Type} {R : α → α → Prop} (h : ∀ a, R a a) : ∀ l : List α, PairR R l l
  | [] => .nil
  | _ :: l => .cons (h _) (pair_refl h l)
theorem st_refl (s : St) : StR (fun a b => a = b) s s := ⟨vr_refl _, vr_refl _, vr_refl _, pair_refl vr_refl _, rfl⟩
/-- the events that the walk takes stand for all -/
theorem evs_close {rs : List Rl} {ws : List Word} {S : Spot} {evs : List Evt} (h : EvsFor S ws evs) {e : Evt} (he : e.inW ws) : ∃ e' ∈ evs ++ [.carry true, .carry false], keyOf (stepS rs S e') = keyOf (stepS rs S e) := by
  cases e with
  | carry a => exact ⟨.carry a, List.mem_append.mpr (.inr (by cases a <;> simp)), rfl⟩
  | plain w => exact ⟨.plain w, List.mem_append.mpr (.inl (h.plain w he.1 he.2)), rfl⟩
  | val w v =>
    by_cases hv : some v ∈ vals S
    · exact ⟨.val w v, List.mem_append.mpr (.inl (h.known w he.1 he.2 v hv)), rfl⟩
    · obtain ⟨f, hf, hm⟩ := h.fresh w he.1 he.2
      obtain ⟨R', h1, h2, h3⟩ := fresh_rel eqR_bi (pair_refl st_refl S) hv hf
      exact ⟨.val w f, List.mem_append.mpr (.inl hm), (key_of_rel h1 (step_rel h1 (.val w h3) h2)).symm⟩

/-! ### what the walk keeps -/
def reach (es : List Ent) (x : Ent) : List Ent := if keyOf x.1 ∈ es.map (fun y => keyOf y.1) then es else es ++ [x]
structure WBase (rs : List Rl) (ws : List Word) (es : List Ent) : Prop where
  path : ∀ x ∈ es, Path rs ws x.1 x.2
  nd : (es.map fun x => keyOf x.1).Nodup
  sorted : es.Pairwise fun x y => x.2.2.length ≤ y.2.2.length
  lens : ∀ x ∈ es, x.2.2.length ≤ es.length
theorem WBase.few {rs : List Rl} {ws : List Word} {es : List Ent} (h : WBase rs ws es) (hr : rs.length ≤ 2) : es.length ≤ 5806080 := by
  have := few_keys (n := rs.length) hr (L := es.map (·.1)) (fun S hS => by
    obtain ⟨x, hx, rfl⟩ := List.mem_map.mp hS
    exact path_len (h.path x hx)) (by rw [List.map_map]; exact h.nd)
  rwa [List.length_map] at this
theorem WBase.few1 {rs : List Rl} {ws : List Word} {es : List Ent} (h : WBase rs ws es) (hr : rs.length ≤ 1) : es.length ≤ 1920 := by
  have := few_keys1 (n := rs.length) hr (L := es.map (·.1)) (fun S hS => by
    obtain ⟨x, hx, rfl⟩ := List.mem_map.mp hS
    exact path_len (h.path x hx)) (by rw [List.map_map]; exact h.nd)
  rwa [List.length_map] at this
theorem reach_pre (es : List Ent) (x : Ent) : ∃ l, reach es x = es ++ l := by
  unfold reach
  split
  · exact ⟨[], (List.append_nil _).symm⟩
  · exact ⟨[x], rfl⟩
theorem reach_sub {es : List Ent} {x y : Ent} (h : y ∈ es) : y ∈ reach es x := by
  obtain ⟨l, e⟩ := reach_pre es x
  rw [e]
  exact List.mem_append.mpr (.inl h)
theorem reach_mem {es : List Ent} {x y : Ent} (h : y ∈ reach es x) : y ∈ es ∨ y = x := by
  unfold reach at h
  split at h
  · exact .inl h
  · rcases List.mem_append.mp h with h | h
    · exact .inl h
    · exact .inr (List.mem_singleton.mp h)
theorem reach_base {rs : List Rl} {ws : List Word} {es : List Ent} {x : Ent} (h : WBase rs ws es) (hp : Path rs ws x.1 x.2) (hl : ∀ y ∈ es, y.2.2.length ≤ x.2.2.length) (hx : x.2.2.length ≤ es.length + 1) : WBase rs ws (reach es x) := by
  refine ⟨fun y hy => ?_, ?_, ?_, ?_⟩
  · rcases reach_mem hy with h1 | rfl
    · exact h.path y h1
    · exact hp
  · unfold reach
    split
    · exact h.nd
    · rename_i hn
      rw [List.map_append]
      refine List.nodup_append.mpr ⟨h.nd, by simp, fun a ha b hb => ?_⟩
      have : b = keyOf x.1 := by simpa using hb
      rw [this]
      exact fun z => hn (by rw [← z]; exact ha)
  · unfold reach
    split
    · exact h.sorted
    · refine List.pairwise_append.mpr ⟨h.sorted, by simp, fun a ha b hb => ?_⟩
      rw [List.mem_singleton.mp hb]
      exact hl a ha
  · unfold reach
    split
    · exact h.lens
    · intro y hy
      rw [List.length_append]
      rcases List.mem_append.mp hy with h1 | h1
      · exact Nat.le_trans (h.lens y h1) (Nat.le_add_right _ _)
      · rw [List.mem_singleton.mp h1]
        exact hx
/-- reached: the key is there, not later than n -/
def Has (es : List Ent) (S : Spot) (n : Nat) : Prop := ∃ y ∈ es, keyOf y.1 = keyOf S ∧ y.2.2.length ≤ n
theorem Has.sub {es es' : List Ent} {S : Spot} {n : Nat} (h : Has es S n) (hs : ∀ y ∈ es, y ∈ es') : Has es' S n := by
  obtain ⟨y, h1, h2, h3⟩ := h
  exact ⟨y, hs y h1, h2, h3⟩
theorem reach_has {es : List Ent} {x : Ent} {n : Nat} (hn : ∀ y ∈ es, y.2.2.length ≤ n) (hx : x.2.2.length ≤ n) : Has (reach es x) x.1 n := by
  unfold reach
  split
  · rename_i h
    obtain ⟨y, h1, h2⟩ := List.mem_map.mp h
    exact ⟨y, h1, h2, hn y h1⟩
  · exact ⟨x, by simp, rfl, hx⟩
structure WI (rs : List Rl) (ws : List Word) (es : List Ent) (a : Nat) : Prop where
  base : WBase rs ws es
  starts : ∀ v, isStart v → Has es (firstS rs v) 0
  clos : ∀ j x, j < a → es[j]? = some x → agree x.1 = true → ∀ e : Evt, e.inW ws → Has es (stepS rs x.1 e) (x.2.2.length + 1)
  near : ∀ x, es[a]? = some x → ∀ y ∈ es, y.2.2.length ≤ x.2.2.length + 1
structure WJ (rs : List Rl) (ws : List Word) (es : List Ent) (a : Nat) (x : Ent) (done : List Evt) : Prop where
  base : WBase rs ws es
  starts : ∀ v, isStart v → Has es (firstS rs v) 0
  clos : ∀ j x, j < a → es[j]? = some x → agree x.1 = true → ∀ e : Evt, e.inW ws → Has es (stepS rs x.1 e) (x.2.2.length + 1)
  here : es[a]? = some x
  near : ∀ y ∈ es, y.2.2.length ≤ x.2.2.length + 1
  done : ∀ e ∈ done, Has es (stepS rs x.1 e) (x.2.2.length + 1)
section
variable {rs : List Rl} {ws : List Word} {es : List Ent} {a : Nat} {x : Ent}
theorem WI.enter (h : WI rs ws es a) (hx : es[a]? = some x) : WJ rs ws es a x [] := ⟨h.base, h.starts, h.clos, hx, h.near x hx, fun e he => by cases he⟩
theorem WJ.turn {done : List Evt} (h : WJ rs ws es a x done) (hg : agree x.1 = true) {e : Evt} (he : e.inW ws) : WJ rs ws (reach es (stepS rs x.1 e, (x.2.1, x.2.2 ++ [e]))) a x (done ++ [e]) := by
  have sub : ∀ y ∈ es, y ∈ reach es (stepS rs x.1 e, (x.2.1, x.2.2 ++ [e])) := fun y hy => reach_sub hy
  have len : (x.2.2 ++ [e]).length = x.2.2.length + 1 := by simp
  have hx : x ∈ es := List.mem_of_getElem? h.here
  obtain ⟨l, el⟩ := reach_pre es (stepS rs x.1 e, (x.2.1, x.2.2 ++ [e]))
  have old : ∀ j y, es[j]? = some y → (reach es (stepS rs x.1 e, (x.2.1, x.2.2 ++ [e])))[j]? = some y := fun j y hj => by
    rw [el, List.getElem?_append_left (List.getElem?_eq_some_iff.mp hj).1]
    exact hj
  have hal : a < es.length := (List.getElem?_eq_some_iff.mp h.here).1
  refine ⟨reach_base h.base (.step (h.base.path x hx) hg he) (fun y hy => by rw [len]; exact h.near y hy) (by rw [len]; exact Nat.succ_le_succ (h.base.lens x hx)), fun v hv => (h.starts v hv).sub sub, fun j y hj hy hgy e' he' => ?_, old _ _ h.here, fun y hy => ?_, fun e' he' => ?_⟩
  · have hy2 : es[j]? = some y := by
      rw [el, List.getElem?_append_left (by omega)] at hy
      exact hy
    exact (h.clos j y hj hy2 hgy e' he').sub sub
  · rcases reach_mem hy with h1 | rfl
    · exact h.near y h1
    · exact Nat.le_of_eq len
  · rcases List.mem_append.mp he' with h1 | h1
    · exact (h.done e' h1).sub sub
    · rw [List.mem_singleton.mp h1]
      exact reach_has h.near (Nat.le_of_eq len)
theorem sorted_get {l : List Ent} (hs : l.Pairwise fun x y => x.2.2.length ≤ y.2.2.length) {i j : Nat} {x y : Ent} (hij : i < j) (hx : l[i]? = some x) (hy : l[j]? = some y) : x.2.2.length ≤ y.2.2.length := by
  obtain ⟨h1, e1⟩ := List.getElem?_eq_some_iff.mp hx
  obtain ⟨h2, e2⟩ := List.getElem?_eq_some_iff.mp hy
  have := List.pairwise_iff_getElem.mp hs i j h1 h2 hij
  rw [e1, e2] at this
  exact this
theorem WJ.leave {evs : List Evt} (h : WJ rs ws es a x (evs ++ [.carry true, .carry false])) (hE : EvsFor x.1 ws evs) : WI rs ws es (a + 1) := by
  refine ⟨h.base, h.starts, fun j y hj hy hg e he => ?_, fun y hy z hz => ?_⟩
  · by_cases hja : j < a
    · exact h.clos j y hja hy hg e he
    · have : j = a := by omega
      subst this
      rw [h.here] at hy
      cases hy
      obtain ⟨e', hm, hk⟩ := evs_close (rs := rs) hE he
      obtain ⟨y, h1, h2, h3⟩ := h.done e' hm
      exact ⟨y, h1, h2.trans hk, h3⟩
  · have h1 := sorted_get h.base.sorted (Nat.lt_succ_self a) h.here hy
    have h2 := h.near z hz
    omega
theorem WI.skip (h : WI rs ws es a) (hx : es[a]? = some x) (hg : agree x.1 = false) : WI rs ws es (a + 1) := by
  refine ⟨h.base, h.starts, fun j y hj hy hgy e he => ?_, fun y hy z hz => ?_⟩
  · by_cases hja : j < a
    · exact h.clos j y hja hy hgy e he
    · have : j = a := by omega
      subst this
      rw [hx] at hy
      cases hy
      rw [hg] at hgy
      cases hgy
  · have h1 := sorted_get h.base.sorted (Nat.lt_succ_self a) hx hy
    have h2 := h.near x hx z hz
    omega
/-- at the end every path has an entry that is not longer -/
structure WDone (rs : List Rl) (ws : List Word) (es : List Ent) : Prop where
  path : ∀ x ∈ es, Path rs ws x.1 x.2
  all : ∀ S h, Path rs ws S h → Has es S h.2.length
  sorted : es.Pairwise fun x y => x.2.2.length ≤ y.2.2.length
  few : rs.length ≤ 2 → es.length ≤ 5806080
  few1 : rs.length ≤ 1 → es.length ≤ 1920
  lens : ∀ x ∈ es, x.2.2.length ≤ es.length
theorem WI.fin (h : WI rs ws es es.length) : WDone rs ws es := by
  refine ⟨h.base.path, fun S k p => ?_, h.base.sorted, h.base.few, h.base.few1, h.base.lens⟩
  induction p with
  | start hv => exact h.starts _ hv
  | @step S v l e p hg he ih =>
    obtain ⟨y, h1, h2, h3⟩ := ih
    have lS : S.length = y.1.length := by rw [path_len p, path_len (h.base.path y h1)]
    obtain ⟨R, B, hr⟩ := rel_of_key lS h2.symm
    obtain ⟨R', e', B', hr', he'⟩ := event_rel B hr e
    obtain ⟨j, hj, ej⟩ := List.getElem_of_mem h1
    have hgy : agree y.1 = true := by rw [← agree_rel B hr]; exact hg
    obtain ⟨z, z1, z2, z3⟩ := h.clos j y hj (by rw [List.getElem?_eq_getElem hj, ej]) hgy e' (he'.inW he)
    refine ⟨z, z1, z2.trans (key_of_rel B' (step_rel B' he' hr')).symm, ?_⟩
    have h4 : y.2.2.length ≤ l.length := h3
    show z.2.2.length ≤ (l ++ [e]).length
    rw [List.length_append]
    show _ ≤ l.length + 1
    omega
end

/-! ### one rule: a word about its states -/
def Keeps (F : St → Prop) : Prop := ∀ R, Bi R → ∀ s t, StR R s t → F s → F t
section
variable {rows : Rl} {ws : List Word} {es : List Ent} {F : St → Prop}
theorem WDone.find (W : WDone [rows] ws es) (hF : Keeps F) {s : St} {h : Hist} (p : Path [rows] ws [s] h) (hs : F s) : ∃ x ∈ es, ∃ t, x.1 = [t] ∧ F t ∧ x.2.2.length ≤ h.2.length := by
  obtain ⟨y, h1, h2, h3⟩ := W.all _ _ p
  have pl := path_len (W.path y h1)
  obtain ⟨R, B, hr⟩ := rel_of_key (S := [s]) (T := y.1) pl.symm h2.symm
  obtain ⟨S, k⟩ := y
  cases hr with
  | cons r t => cases t with
    | nil => exact ⟨_, h1, _, rfl, hF R B _ _ r hs, h3⟩
theorem ent_one (W : WDone [rows] ws es) {x : Ent} (hx : x ∈ es) : ∃ s, x.1 = [s] := by
  have pl := path_len (W.path x hx)
  obtain ⟨S, k⟩ := x
  match S, pl with
  | [s], _ => exact ⟨s, rfl⟩
/-- no entry tells F: no path does -/
theorem WDone.no (W : WDone [rows] ws es) (hF : Keeps F) (h : ∀ (i : Nat) (x : Ent), es[i]? = some x → ∀ s, x.1 = [s] → ¬ F s) : ∀ s k, Path [rows] ws [s] k → ¬ F s := fun s k p hs => by
  obtain ⟨x, h1, t, h2, h3, _⟩ := W.find hF p hs
  obtain ⟨i, hi, e⟩ := List.getElem_of_mem h1
  exact h i x (by rw [List.getElem?_eq_getElem hi, e]) t h2 h3
/-- the first entry that tells F is a shortest one -/
theorem WDone.least (W : WDone [rows] ws es) (hF : Keeps F) {i : Nat} {x : Ent} (hx : es[i]? = some x) (h : ∀ (j : Nat) (y : Ent), j < i → es[j]? = some y → ∀ s, y.1 = [s] → ¬ F s) : ∀ s k, Path [rows] ws [s] k → F s → x.2.2.length ≤ k.2.length := fun s k p hs => by
  obtain ⟨y, h1, t, h2, h3, h4⟩ := W.find hF p hs
  obtain ⟨j, hj, e⟩ := List.getElem_of_mem h1
  have ey : es[j]? = some y := by rw [List.getElem?_eq_getElem hj, e]
  by_cases hji : j < i
  · exact absurd h3 (h j y hji ey t h2)
  · by_cases e2 : j = i
    · subst e2
      rw [hx] at ey
      cases ey
      exact h4
    · exact Nat.le_trans (sorted_get W.sorted (by omega) hx ey) h4
end
end Ci

set_option Elab.async false
set_option linter.all false
set_option maxRecDepth 100000
set_option maxHeartbeats 4000000
/-! Walk.reach. -/
namespace Ci
open PySem PySem.Spec PyProof.Rows L2 Evl
open C8 (Cal Met Mak pe_c pe_mk pe_mt pe_mt0 pe_gc)
def histD (h : Hist) : PyData := .tuple [valD h.1, .tuple (h.2.map evD)]
theorem noL_val (v : Val) : noL (valD v) = true := by cases v <;> simp only [valD, noL]
theorem noL_hist (h : Hist) : noL (histD h) = true := by
  unfold histD
  rw [noL_tup, noLs_cons, noLs_cons, noLs_nil, noL_tup, noL_val, noLs_map evD noL_ev]
  rfl
theorem dp_valv (K : PySem.W.Frag) (H : Hp) (v : Val) : Dp K H (vo v) (valD v) := by
  cases v with
  | none => exact .non
  | some i => exact .int i
theorem dp_vo {K : PySem.W.Frag} {H : Hp} {x : V} {v : Val} (h : Dp K H x (valD v)) : x = vo v := by
  cases v <;> cases h <;> rfl
def isRl (K : PySem.W.Frag) (rows : List Row) : Pr := fun v H => ∃ r notes, v = .ref r ∧ RlAt K H r notes rows
theorem stb_isRl (K : PySem.W.Frag) (rows : List Row) : StbT (isRl K rows) := fun _ _ _ e ⟨r, n, h, R⟩ => ⟨r, n, h, R.t e⟩
def wkF (sp hi kn : Addr) : List (Str × V) := [("spots", .ref sp), ("histories", .ref hi), ("known", .ref kn)]
structure WkAt (K : PySem.W.Frag) (H : Hp) (p dx sp hi kn : Addr) (es : List Ent) : Prop where
  obj : H p = some (.ins (aWalk K) dx (wkF sp hi kn))
  spots : ∃ xs, H sp = some (.lst xs) ∧ Paired (fun x (e : Ent) => isSpot K e.1 x H) xs es
  hists : ∃ ys, H hi = some (.lst ys) ∧ Paired (fun y (e : Ent) => isD K (histD e.2) y H) ys es
  known : ∃ kvs : List (List Key × V), H kn = some (.dT kvs) ∧ kvs.map (·.1) = es.map fun e => (keyOf e.1).map Sum.inl
  apart : sp ≠ hi
def Fr3 (sp hi kn : Addr) (H H' : Hp) : Prop := ∀ b o, b ≠ sp → b ≠ hi → b ≠ kn → H b = some o → H' b = some o
section
variable {K : PySem.W.Frag} {H H' : Hp} {p dx sp hi kn : Addr} {es : List Ent}
theorem WkAt.x (W : WkAt K H p dx sp hi kn es) (e : Ex H H') : WkAt K H' p dx sp hi kn es := by
  obtain ⟨h1, ⟨xs, h2, h3⟩, ⟨ys, h4, h5⟩, ⟨kvs, h6, h7⟩, h8⟩ := W
  exact ⟨e _ _ h1, ⟨xs, e _ _ h2, Paired.mapP h3 fun _ b z => stb_isSpot K _ _ _ _ (tOf e) z⟩, ⟨ys, e _ _ h4, Paired.mapP h5 fun _ b z => stb_isD K (noL_hist _) _ _ _ (tOf e) z⟩, ⟨kvs, e _ _ h6, h7⟩, h8⟩
theorem WkAt.fr (W : WkAt K H p dx sp hi kn es) (f : Fr3 sp hi kn H H') : ExT H H' := fun b o hb im => by
  obtain ⟨h1, ⟨xs, h2, h3⟩, ⟨ys, h4, h5⟩, ⟨kvs, h6, h7⟩, h8⟩ := W
  refine f b o (fun z => ?_) (fun z => ?_) (fun z => ?_) hb
  · subst z
    rw [h2] at hb
    cases hb
    exact im
  · subst z
    rw [h4] at hb
    cases hb
    exact im
  · subst z
    rw [h6] at hb
    cases hb
    exact im
theorem ex_fr {H0 : Hp} (e : Ex H0 H) (f : Fr3 sp hi kn H H') (n1 : H0 sp = none) (n2 : H0 hi = none) (n3 : H0 kn = none) : Ex H0 H' := fun b o hb =>
  f b o (fun z => by subst z; rw [n1] at hb; cases hb) (fun z => by subst z; rw [n2] at hb; cases hb) (fun z => by subst z; rw [n3] at hb; cases hb) (e b o hb)
end
section
variable {K : PySem.W.Frag} {σ : L2.St} {H : Hp} {ta te : TE} {D : Ends} {l : Addr} {xs : List V} {v : V}
theorem s_appB (hl : H l = some (.lst xs)) (ha : Ev ta σ H (.ref l)) (h : Ev te σ H v) (hz : xs.length < sizeLine) (k : ∀ H1, Ex H H1 → D.nx σ (upd H1 l (.lst (xs ++ [v])))) :
    tDrop (tBM K "list" rAppend ta (tCons te tNil)) D σ H := ha H (Ex.refl H) _ fun H1 e1 =>
  ⟨Or.inl ⟨rfl, xs, sq_of (e1 l _ hl)⟩, h H1 e1 _ fun H2 e2 => ⟨l, xs, v, rfl, rfl, e2 l _ (e1 l _ hl), hz, k H2 (e1.trans e2)⟩⟩
end
theorem valV_mem {κ : Type} [DecidableEq κ] (k : κ) : ∀ (kvs : List (κ × V)), (valV kvs k).isSome = decide (k ∈ kvs.map (·.1))
  | [] => rfl
  | kv :: kvs => by
    unfold valV
    by_cases h : kv.1 = k
    · rw [List.find?_cons_of_pos (by exact decide_eq_true h), decide_eq_true (by rw [List.map_cons, h]; exact List.mem_cons_self)]
      rfl
    · rw [List.find?_cons_of_neg (by intro z; exact h (of_decide_eq_true z))]
      have ih := valV_mem k kvs
      unfold valV at ih
      rw [ih, List.map_cons]
      by_cases hm : k ∈ kvs.map (·.1)
      · rw [decide_eq_true hm, decide_eq_true (List.mem_cons_of_mem _ hm)]
      · rw [decide_eq_false hm, decide_eq_false fun z => (List.mem_cons.mp z).elim (fun q => h q.symm) hm]
theorem valV_some {κ : Type} [DecidableEq κ] (k : κ) (kvs : List (κ × V)) : (valV kvs k).isSome = true ↔ k ∈ kvs.map (·.1) := by
  rw [valV_mem]
  exact ⟨of_decide_eq_true, fun h => decide_eq_true h⟩
theorem inl_inj {l m : List Int} (h : l.map (Sum.inl : Int → Key) = m.map Sum.inl) : l = m := by
  induction l generalizing m with
  | nil =>
    cases m with
    | nil => rfl
    | cons b m => cases h
  | cons a l ih =>
    cases m with
    | nil => cases h
    | cons b m =>
      rw [List.map_cons, List.map_cons] at h
      obtain ⟨h1, h2⟩ := List.cons.inj h
      rw [Sum.inl.inj h1, ih h2]
theorem kv_key (l : List Int) : l.map V.int = (l.map (Sum.inl : Int → Key)).map kV := by
  rw [List.map_map]
  rfl
theorem mem_keys {es : List Ent} {S : Spot} {kvs : List (List Key × V)} (h : kvs.map (·.1) = es.map fun e => (keyOf e.1).map Sum.inl) : (keyOf S).map (Sum.inl : Int → Key) ∈ kvs.map (·.1) ↔ keyOf S ∈ es.map fun e => keyOf e.1 := by
  rw [h]
  constructor
  · intro z
    obtain ⟨e, h1, h2⟩ := List.mem_map.mp z
    exact List.mem_map.mpr ⟨e, h1, inl_inj h2⟩
  · intro z
    obtain ⟨e, h1, h2⟩ := List.mem_map.mp z
    exact List.mem_map.mpr ⟨e, h1, by rw [h2]⟩
theorem seen_key {es : List Ent} {S : Spot} {kvs : List (List Key × V)} (h : kvs.map (·.1) = es.map fun e => (keyOf e.1).map Sum.inl) : (valV kvs ((keyOf S).map (Sum.inl : Int → Key))).isSome = decide (keyOf S ∈ es.map fun e => keyOf e.1) := by
  cases hq : (valV kvs ((keyOf S).map (Sum.inl : Int → Key))).isSome with
  | true => exact (decide_eq_true ((mem_keys h).mp ((valV_some _ kvs).mp hq))).symm
  | false =>
    refine (decide_eq_false fun z => ?_).symm
    have h1 := (valV_some _ kvs).mpr ((mem_keys h).mpr z)
    rw [hq] at h1
    cases h1
theorem s_dput {σ : L2.St} {H : Hp} {td ty tv : TE} {D : Ends} {a : Addr} {y v : V} (hv : Ev tv σ H v) (hd : Ev td σ H (.ref a)) (hy : Ev ty σ H y) (k : ∀ H1, Ex H H1 → ∃ H4, DPut H1 a y v H4 ∧ D.nx σ H4) : sDPut td ty tv D σ H :=
  hv H (Ex.refl _) _ fun H1 e1 => hd H1 e1 _ fun H2 e2 => hy H2 (e1.trans e2) _ fun H3 e3 => by
    obtain ⟨H4, h1, h2⟩ := k H3 ((e1.trans e2).trans e3)
    exact ⟨a, H4, rfl, h1, h2⟩
theorem big_line : 5806080 < sizeLine := by decide
section
variable {P : Program} {w : World} {K : PySem.W.Frag} {mg : Str → Option Value} {base : Heap}
def spReach (K : PySem.W.Frag) : Sp := fun vs H Q _ => ∃ p a hv dx sp hi kn es S h, vs = [.ref p, .ref a, hv] ∧ WkAt K H p dx sp hi kn es ∧ SpAt K H a S ∧ S.length ≤ 2 ∧ Dp K H hv (histD h) ∧ es.length ≤ 5806080 ∧
  ∀ H', Fr3 sp hi kn H H' → WkAt K H' p dx sp hi kn (reach es (S, h)) → Q .non H'
theorem met_Walk_reach (T : Txt K mg) : Met P w K mg base 4 (aWalk K) "reach" (spReach K) [] := by
  obtain ⟨fd, F⟩ := T.f_Walk_reach
  refine metD T.cl_Walk T.m_Walk_reach F (F.bindsN fun _ _ _ _ _ _ us hl => match us, hl with | [_, _, _], _ => rfl) sc_Walk_reach (fun vs H Q E h => ?_) (fun cdv A outer s H vs Q E hr h => ?_)
  · obtain ⟨p, a, hv, _, _, _, _, _, _, _, rfl, _⟩ := h
    rfl
  · obtain ⟨p, a, hv, dx, sp, hi, kn, es, S, h, rfl, W, hS, hl, hH, few, k⟩ := h
    have hu := Nat.lt_of_le_of_lt (Nat.add_le_add_left (show 1 ≤ 65 by decide) _) (u65 hr)
    refine ⟨_, (pss_cons (ps_set (i := 3) sc_Walk_reach.nd rfl (Or.inl rfl) (pe_c (cal_common_key T) hr (by decide) rfl (pa_cons (pv 1) pa_nil)))
      (pss_one (ps_if (pt_cmp (pc_dnotin hu (pv 3) (pf K (pv 0))))
        (pss_cons (ps_dput hu (pf K (pv 0)) (pv 3) pe_bl rfl)
        (pss_cons (ps_expr (pe_bm PySem.F.plainAttrs_list PySem.F.slot_list_append PySem.F.type_list_append mt_append (pf K (pv 0)) (pa_cons (pv 1) pa_nil)))
        (pss_one (ps_expr (pe_bm PySem.F.plainAttrs_list PySem.F.slot_list_append PySem.F.type_list_append mt_append (pf K (pv 0)) (pa_cons (pv 2) pa_nil))))))
        pss_nil))), ?_⟩
    refine sp_asg (ep_call (sp := spCommonKey K) (R := keyP S) (ea_cons (ev_var rfl) ea_nil) fun H1 e Q k E => ⟨a, S, rfl, hS.t (tOf e), hl, k⟩) fun v H1 e1 ⟨b, ev, hb⟩ => ?_
    subst ev
    have W1 := W.x e1
    obtain ⟨o1, ⟨xs, o2, o3⟩, ⟨ys, o4, o5⟩, ⟨kvs, o6, o7⟩, o8⟩ := id W1
    have lx : xs.length = es.length := Paired.length o3
    have ly : ys.length = es.length := Paired.length o5
    have lk : kvs.length = es.length := by
      have := congrArg List.length o7
      rwa [List.length_map, List.length_map] at this
    have big := big_line
    have hb2 : H1 b = some (.tup (((keyOf S).map (Sum.inl : Int → Key)).map kV)) := by rw [← kv_key]; exact hb
    have tst : EvT (tB (tDNotIn (tVar 3) (tFld K (tVar 0) "known"))) [some (.ref p), some (.ref a), some hv, some (.ref b)] H1 (!decide (keyOf S ∈ es.map fun e => keyOf e.1)) := fun H2 e2 Q2 q2 => by
        refine ⟨.ref b, rfl, ?_⟩
        show tFld K (tVar 0) "known" _ H2 _
        refine (ev_fld (ev_var rfl) o1 T.cl_Walk T.na_Walk_known rfl) H2 e2 _ fun H4 e4 => ?_
        have e14 := e2.trans e4
        refine ⟨kn, _, rfl, DGet.t (e14 _ _ o6) (e14 _ _ hb2), _, rfl, ?_⟩
        rw [seen_key o7]
        exact q2 H4 e4
    refine s_if tst (fun hn H2 e2 => ?_) (fun hn H2 e2 => ?_)
    · have hnm : keyOf S ∉ es.map fun e => keyOf e.1 := by simpa using hn
      have W2 := W1.x e2
      have er : reach es (S, h) = es ++ [(S, h)] := if_neg hnm
      obtain ⟨o1, ⟨xs, o2, o3⟩, ⟨ys, o4, o5⟩, ⟨kvs, o6, o7⟩, o8⟩ := id W2
      have lx : xs.length = es.length := Paired.length o3
      have ly : ys.length = es.length := Paired.length o5
      have lk : kvs.length = es.length := by
        have := congrArg List.length o7
        rwa [List.length_map, List.length_map] at this
      have hb3 := e2 _ _ hb2
      refine s_dput (v := .bl true) ev_c (ev_fld (ev_var rfl) o1 T.cl_Walk T.na_Walk_known rfl) (y := .ref b) (ev_var rfl) fun H5 e25 => ⟨_, DPut.t (e25 _ _ o6) (e25 _ _ hb3) (by omega), ?_⟩
      have knk : putK kvs ((keyOf S).map (Sum.inl : Int → Key)) (V.bl true) = kvs ++ [((keyOf S).map Sum.inl, V.bl true)] := putK_new _ (by
        have h1 := seen_key (S := S) o7
        rw [decide_eq_false hnm] at h1
        exact Option.isNone_iff_eq_none.mp (by
          cases hq : valV kvs ((keyOf S).map (Sum.inl : Int → Key)) with
          | none => rfl
          | some _ =>
            rw [hq] at h1
            cases h1))
      rw [knk]
      have pk : p ≠ kn := fun z => by
        subst z
        rw [o1] at o6
        cases o6
      have ps : p ≠ sp := fun z => by
        subst z
        rw [o1] at o2
        cases o2
      have ph : p ≠ hi := fun z => by
        subst z
        rw [o1] at o4
        cases o4
      have sk : sp ≠ kn := fun z => by
        subst z
        rw [o2] at o6
        cases o6
      have hk : hi ≠ kn := fun z => by
        subst z
        rw [o4] at o6
        cases o6
      have g1 : ∀ o, (L2.upd H5 kn o) p = some (.ins (aWalk K) dx (wkF sp hi kn)) := fun o => by
        rw [upd_ne pk]
        exact e25 _ _ o1
      refine s_appB (l := sp) (xs := xs) (v := .ref a) (by rw [upd_ne sk]; exact e25 _ _ o2) (ev_fld (ev_var rfl) (g1 _) T.cl_Walk T.na_Walk_spots rfl) (ev_var rfl) (by omega) fun H6 e6 => ?_
      refine s_appB (l := hi) (xs := ys) (v := hv) (by
          rw [upd_ne (Ne.symm o8)]
          exact e6 _ _ (by rw [upd_ne hk]; exact e25 _ _ o4)) (ev_fld (ev_var rfl) (by
          rw [upd_ne ps]
          exact e6 _ _ (g1 _)) T.cl_Walk T.na_Walk_histories rfl) (ev_var rfl) (by omega) fun H7 e7 => ?_
      have eT : ExT H2 (L2.upd H7 hi (.lst (ys ++ [hv]))) := by
        have t1 : ExT H2 (L2.upd H5 kn (.dT (kvs ++ [((keyOf S).map Sum.inl, V.bl true)]))) := ExT.upd (tOf e25) (e25 _ _ o6) fun z => z
        have t2 : ExT H2 (L2.upd H6 sp (.lst (xs ++ [.ref a]))) := ExT.upd (t1.trans (tOf e6)) (o := .lst xs) (e6 _ _ (by rw [upd_ne sk]; exact e25 _ _ o2)) fun z => z
        refine ExT.upd (t2.trans (tOf e7)) (o := .lst ys) (e7 _ _ ?_) fun z => z
        rw [upd_ne (Ne.symm o8)]
        exact e6 _ _ (by rw [upd_ne hk]; exact e25 _ _ o4)
      refine k _ (fun c o n1 n2 n3 hc => ?_) ?_
      · rw [upd_ne n2]
        refine e7 _ _ ?_
        rw [upd_ne n1]
        refine e6 _ _ ?_
        rw [upd_ne n3]
        exact e25 _ _ (e2 _ _ (e1 _ _ hc))
      · rw [er]
        refine ⟨?_, ⟨xs ++ [.ref a], ?_, ?_⟩, ⟨ys ++ [hv], upd_same, ?_⟩, ⟨kvs ++ [((keyOf S).map Sum.inl, V.bl true)], ?_, ?_⟩, o8⟩
        · rw [upd_ne ph]
          refine e7 _ _ ?_
          rw [upd_ne ps]
          exact e6 _ _ (g1 _)
        · rw [upd_ne o8]
          exact e7 _ _ upd_same
        · exact paired_app (Paired.mapP o3 fun _ _ z => stb_isSpot K _ _ _ _ eT z) (.cons ⟨a, rfl, hS.t ((tOf (e1.trans e2)).trans eT)⟩ .nil)
        · exact paired_app (Paired.mapP o5 fun _ _ z => stb_isD K (noL_hist _) _ _ _ eT z) (.cons (stb_isD K (noL_hist h) _ _ _ ((tOf (e1.trans e2)).trans eT) hH) .nil)
        · rw [upd_ne (Ne.symm hk)]
          refine e7 _ _ ?_
          rw [upd_ne (Ne.symm sk)]
          exact e6 _ _ upd_same
        · rw [List.map_append, List.map_append, o7]
          rfl
    · have hm : keyOf S ∈ es.map fun e => keyOf e.1 := by simpa using hn
      refine k _ (fun c o _ _ _ hc => e2 _ _ (e1 _ _ hc)) ?_
      have er : reach es (S, h) = es := if_pos hm
      rw [er]
      exact W1.x e2
end
end Ci

set_option Elab.async false
set_option linter.all false
set_option maxRecDepth 100000
set_option maxHeartbeats 4000000
/-! Walk.__init__. -/
namespace Ci
open PySem PySem.Spec PyProof.Rows L2 Evl
open C8 (Cal Met Mak pe_c pe_mk pe_mt pe_mt0 pe_gc)

/-! ### general forms -/
section
variable {K : PySem.W.Frag} {σ : L2.St} {H : Hp} {ta te tl : TE} {tt t : TA} {D : Ends} {R : Pr} {Rs : List V → Hp → Prop} {Rx : List V → Hp → Prop} {g : TG} {tu : TS} {E : XK} {b : Bool}
theorem eas_starL (h : EvP te σ H R) (hR : ∀ v H1, R v H1 → ∃ a xs, v = .ref a ∧ H1 a = some (.lst xs) ∧ Rx xs H1) (st : ∀ xs H1 H2, Ex H1 H2 → Rx xs H1 → Rx xs H2) (hr : EvAs t σ H Rs) : EvAs (StX.tStar K te t) σ H (fun vs H1 => ∃ xs r, vs = xs ++ r ∧ Rx xs H1 ∧ Rs r H1) := fun H1 e1 Q q =>
  h H1 e1 _ fun v H2 e2 rv => by
    obtain ⟨a, xs, rfl, ha, hx⟩ := hR v H2 rv
    exact ⟨a, xs, rfl, .inr (sq_of ha), hr H2 (e1.trans e2) _ fun r H3 e3 rr => q (xs ++ r) H3 (e2.trans e3) ⟨xs, r, rfl, st xs H2 H3 e3 hx, rr⟩⟩
theorem s_forNLs (h : EvAs tt σ H Rs) (hz : ∀ vs H1, Rs vs H1 → vs.length ≤ 100000) (hk : ∀ vs q H1, Ex H H1 → Rs vs H1 → H1 q = none → tFor (iList K (tC (.ref q))) g tu D σ (upd H1 q (.lst vs))) : tFor (iList K (tLst tt)) g tu D σ H :=
  h H (Ex.refl _) _ fun vs H1 e1 r => ⟨sz_of (hz vs H1 r), fun q hq => hk vs q H1 e1 r hq⟩
theorem ep_tupB {vs : List V} (h : EvA tt σ H vs) (hl : vs.length ≤ sizeLine) : EvP (tTup tt) σ H (TpV K vs) := fun H1 e1 Q q =>
  h H1 e1 _ fun H2 e2 => ⟨hl, fun p hp => q (.ref p) _ (e2.trans (Ex.new hp)) ⟨p, rfl, SqT.of upd_same⟩⟩
theorem qp_asgG {tz : TS} (h : EvP te σ H R) (k : ∀ v H1, Ex H H1 → R v H1 → g v σ H1 (tz D)) : tSeq (tAsg te g) tz D σ H := h H (Ex.refl H) _ k
def TsP {β : Type} (R : β → Pr) (bs : List β) : Pr := fun v H => ∃ p ys, v = .ref p ∧ H p = some (.tup ys) ∧ Paired (fun y b => R b y H) ys bs
theorem ep_tupOf {β : Type} {Rb : β → Pr} {bs : List β} (stb : ∀ b, StbT (Rb b)) (h : EvP te σ H (LsP Rb bs)) : EvP (tCB (rTo K) (tCons te tNil)) σ H (TsP Rb bs) := fun H1 e1 Q q =>
  h H1 e1 _ fun v H2 e2 r => by
    obtain ⟨p, ys, rfl, hp, hq⟩ := r
    exact ⟨p, ys, rfl, .inl ⟨sq_of hp, fun l hl => q (.ref l) _ (e2.trans (Ex.new hl)) ⟨l, ys, rfl, upd_same, paired_T stb (tOf (Ex.new hl)) hq⟩⟩⟩
theorem isSpot_of {S : Spot} {v : V} (h : TsP (isSt K) S v H) : isSpot K S v H := by
  obtain ⟨p, ys, rfl, hp, hq⟩ := h
  exact ⟨p, rfl, ys, SqT.of hp, hq⟩
/-- self.reach(..) -/
theorem s_reach {p dx sp hi kn : Addr} {es : List Ent} {S : Spot} {h : Hist} (W : WkAt K H p dx sp hi kn es) (hp : Ev ta σ H (.ref p)) (ha : EvAs tt σ H (fun vs H1 => ∃ a hv, vs = [.ref a, hv] ∧ SpAt K H1 a S ∧ Dp K H1 hv (histD h))) (hl : S.length ≤ 2) (few : es.length ≤ 5806080)
    (k : ∀ H1 H2, Ex H H1 → Fr3 sp hi kn H1 H2 → WkAt K H2 p dx sp hi kn (reach es (S, h)) → D.nx σ H2) : tDrop (tMeth (aWalk K) "reach" (spReach K) [] E ta tt) D σ H :=
  hp H (Ex.refl _) _ fun H1 e1 => ⟨p, dx, _, rfl, e1 _ _ W.obj, rfl, ha H1 e1 _ fun vs H2 e2 ⟨a, hv, ev, hS, hH⟩ => by
    subst ev
    exact ⟨p, a, hv, dx, sp, hi, kn, es, S, h, rfl, W.x (e1.trans e2), hS, hl, hH, few, fun H3 f W3 => k H2 H3 (e1.trans e2) f W3⟩⟩
/-- over zip(tuple, list) -/
theorem it_zipM {α β : Type} {a b : Addr} {xs ys : List V} {as : List α} {bs : List β} {Ra : α → Pr} {Rb : β → Pr} (h : EvA tt σ H [.ref a, .ref b]) (hx : SqT K H a xs) (hy : SqL K H b ys) (hp : Paired (fun x s => ∀ H1, Ex H H1 → Ra s x H1) xs as) (hq : Paired (fun x s => ∀ H1, Ex H H1 → Rb s x H1) ys bs) :
    ItP (CiR.iZipM K tt) σ H (as.zip bs) (fun c x H1 => ∃ t y z, x = .ref t ∧ H1 t = some (.tup [y, z]) ∧ Ra c.1 y H1 ∧ Rb c.2 z H1) := fun H1 e1 Rk k =>
  h H1 e1 _ fun H2 e2 => ⟨a, b, xs, ys, rfl, ex_t (e1.trans e2) hx, ex_l (e1.trans e2) hy, k (CiR.ItzM K a b) H2 (fun H' => SqT K H' a xs ∧ SqL K H' b ys) _ e2 (fun H3 e3 => ⟨ex_t ((e1.trans e2).trans e3) hx, ex_l ((e1.trans e2).trans e3) hy⟩) (CiR.walk_zipM (by rw [List.length_zip, Paired.length hp, Paired.length hq])) fun i Ha x Hb ea y hi => by
    obtain ⟨t, x1, y1, rfl, ht, rfl, e3, e4⟩ := y
    obtain ⟨c, hc, rc⟩ := paired_get hp e3
    obtain ⟨d, hd, rd⟩ := paired_get hq e4
    have en : Ex H (L2.upd Ha t (.tup [x1, y1])) := ((e1.trans e2).trans ea).trans (Ex.new ht)
    exact ⟨(c, d), by rw [List.getElem?_zip_eq_some]; exact ⟨hc, hd⟩, Ex.new ht, t, x1, y1, rfl, upd_same, rc _ en, rd _ en⟩⟩
theorem ev_lenL {x : Addr} {xs : List V} (ha : Ev ta σ H (.ref x)) (h : H x = some (.lst xs)) : Ev (tCB (rLn K) (tCons ta tNil)) σ H (.int (xs.length : Int)) := fun H1 e Q q =>
  ha H1 e _ fun H2 e2 => ⟨x, xs, rfl, Or.inl (sq_of ((e.trans e2) _ _ h)), q H2 e2⟩
theorem ep_first {v : Val} (ha : Ev ta σ H (vo v)) : EvP (tCall (spFirst K) [] E (tCons ta tNil)) σ H (isSt K (St.first v)) := ep_call (ea_cons ha ea_nil) fun H1 e Q k E => ⟨v, rfl, k⟩
theorem sub_all {α : Type} (l : List α) (f : α → β) : (l.filter fun _ => true).map f = l.map f := by rw [List.filter_eq_self.mpr fun _ _ => rfl]
/-- (start, events), the tuple -/
theorem ep_hist {v : Val} {el : List Evt} (ha : Ev ta σ H (vo v)) (hb : EvP te σ H (isD K (.tuple (el.map evD)))) : EvP (tTup (tCons ta (tCons te tNil))) σ H (isD K (histD (v, el))) := by
  refine ep_tupA (n := 2) (eas_v ha (eas_cons hb (stb_isD K (by rw [noL_tup]; exact noLs_map evD noL_ev el)).s eas_nil)) (fun vs H1 ⟨r, h1, v2, r2, h2, _, h3⟩ => ?_) (by decide) fun vs a H1 H2 _ ⟨r, h1, v2, r2, h2, h4, h3⟩ e2 hp => ?_
  · subst h1 h2 h3
    rfl
  · subst h1 h2 h3
    exact .tup (SqT.of hp) (.cons (dp_valv K H2 v) (.cons (stb_isD K (by rw [noL_tup]; exact noLs_map evD noL_ev el) _ _ _ (tOf e2) h4) .nil))
end
section
variable {P : Program} {w : World} {K : PySem.W.Frag} {mg : Str → Option Value} {base : Heap}
def spWalkInit (K : PySem.W.Frag) : Sp := fun vs H Q _ => ∃ p rl wv dx H0 rs ws xs, vs = [.ref p, .ref rl, wv] ∧ H p = some (.ins (aWalk K) dx []) ∧ H0 p = none ∧ Ex H0 H ∧ H0 rl = some (.lst xs) ∧ Paired (fun x rows => isRl K rows x H0) xs rs ∧ 1 ≤ rs.length ∧ rs.length ≤ 2 ∧ ws.Nodup ∧ Dp K H0 wv (wsD ws) ∧
  ∀ H', Ex H0 H' → ∀ sp hi kn es, WkAt K H' p dx sp hi kn es → WDone rs ws es → Q .non H'
theorem noL_ws (ws : List Word) : noL (wsD ws) = true := noL_strs _
theorem dps_app {H : Hp} : ∀ {xs : List V} {ds : List PyData} {ys : List V} {es : List PyData}, DpAll K H xs ds → DpAll K H ys es → DpAll K H (xs ++ ys) (ds ++ es)
  | _, _, _, _, .nil, h => h
  | _, _, _, _, .cons h1 h2, h => .cons h1 (dps_app h2 h)
theorem ok_of {ws : List Word} {e : Evt} (h : e.inW ws) : e.ok = true := by
  cases e with
  | carry a => rfl
  | val w i => exact h.2
  | plain w =>
    show (!w.valued) = true
    rw [h.2]
    rfl
theorem isStart_of {i : Nat} {v : Val} (h : ([some 1, none] : List Val)[i]? = some v) : isStart v := by
  match i, h with
  | 0, h => exact .inl (Option.some.inj h).symm
  | 1, h => exact .inr (Option.some.inj h).symm
theorem mak_Walk (T : Txt K mg) : Mak P w K mg base 6 "Walk" (aWalk K) (spWalkInit K) [] := by
  obtain ⟨fd, F⟩ := T.f_Walk_init
  refine makD T.mk_Walk T.g_Walk F (F.bindsN fun _ _ _ _ _ _ us hl => match us, hl with | [_, _, _], _ => rfl) sc_Walk_init (fun vs H Q E h => ?_) (fun cdv A outer s H vs Q E hr h => ?_)
  · obtain ⟨p, rl, wv, dx, H0, rs, ws, xs, rfl, _⟩ := h
    rfl
  · obtain ⟨p, rl, wv, dx, H0, rs, ws, rxs, rfl, hp, hp0, e0, hrl, hrs, rn1, rn2, nd, dW, k⟩ := h
    obtain ⟨an, g_ANSWERS, dA⟩ := T.c_ANSWERS
    have hu := Nat.lt_of_le_of_lt (Nat.add_le_add_left (show 1 ≤ 65 by decide) _) (u65 hr)
    refine ⟨_, (pss_cons (ps_fld (pv 0) (pe_lst pa_nil) rfl)
      (pss_cons (ps_fld (pv 0) (pe_lst pa_nil) rfl)
      (pss_cons (ps_fld (pv 0) pe_dnewT rfl)
      (pss_cons (ps_for PassesOwn.never rfl (pi_tup (pe_tup (pa_cons pe_int (pa_cons pe_non pa_nil)))) (pg_name (i := 3) sc_Walk_init.nd rfl (Or.inr rfl))
        (pss_one (ps_expr (pe_mt (met_Walk_reach T) hr (by decide) (pv 0) (pa_cons (pe_callTy (kTupOf K) (by rfl) T.z_tuple (by decide +kernel) (pa_cons (pe_lc (own := [("rule", 9)]) (by rfl) sc_Walk_init.nd (pi_list (pv 1)) (blkOk_by (own := [("rule", 9)]) (N := n_Walk_init) (sc := defScope s_Walk_init) (by decide +kernel)) (fun _ _ _ _ _ => (pg_name (i := 9) sc_Walk_init.nd rfl (Or.inl rfl))) (fun _ _ _ _ _ => pts_nil) (fun _ _ _ _ _ => (pe_c (cal_first_state T) hr (by decide) rfl (pa_cons (pv 3) pa_nil)))) pa_nil)) (pa_cons (pe_tup (pa_cons (pv 3) (pa_cons (pe_tup pa_nil) pa_nil))) pa_nil))))))
      (pss_cons (ps_set (i := 4) sc_Walk_init.nd rfl (Or.inl rfl) pe_int)
      (pss_one (ps_while PassesOwn.never (ptc op_lt (pv 4) (pe_callB (kLen K) (by rfl) T.z_len PySem.boot_len (pa_cons (pf K (pv 0)) pa_nil)))
        (pss_cons (ps_asg (pe_tup (pa_cons (pix (kIxL K) (pf K (pv 0)) (pv 4)) (pa_cons (pix (kIxL K) (pf K (pv 0)) (pv 4)) pa_nil))) (kTup K (n := 2) (pgs_cons (pg_name (i := 5) sc_Walk_init.nd rfl (Or.inr rfl)) (pgs_cons (kTup K (n := 2) (pgs_cons (pg_name (i := 3) sc_Walk_init.nd rfl (Or.inr rfl)) (pgs_cons (pg_name (i := 6) sc_Walk_init.nd rfl (Or.inl rfl)) pgs_nil))) pgs_nil))))
        (pss_cons (ps_aug (i := 4) sc_Walk_init.nd rfl (Or.inl rfl) pe_int ip_add)
        (pss_one (ps_if (pt_val (pe_callB (kAll K) (by rfl) T.z_all (by decide +kernel) (pa_cons (pe_lc (own := [("state", 10)]) (by rfl) sc_Walk_init.nd (pi_tup (pv 5)) (blkOk_by (own := [("state", 10)]) (N := n_Walk_init) (sc := defScope s_Walk_init) (by decide +kernel)) (fun _ _ _ _ _ => (pg_name (i := 10) sc_Walk_init.nd rfl (Or.inl rfl))) (fun _ _ _ _ _ => pts_nil) (fun _ _ _ _ _ => (pec op_eq (pf K (pv 10)) (pf K (pix (kIxT K) (pv 5) pe_int))))) pa_nil)))
          (pss_one (ps_for PassesOwn.never rfl (pi_list (pe_lst (kStar K (pe_c (cal_events_for T) hr (by decide) rfl (pa_cons (pv 5) (pa_cons (pv 2) pa_nil))) (kStar K (pe_lc (own := [("answer", 11)]) (by rfl) sc_Walk_init.nd (pi_tup (pe_gc rfl g_ANSWERS)) (blkOk_by (own := [("answer", 11)]) (N := n_Walk_init) (sc := defScope s_Walk_init) (by decide +kernel)) (fun _ _ _ _ _ => (pg_name (i := 11) sc_Walk_init.nd rfl (Or.inl rfl))) (fun _ _ _ _ _ => pts_nil) (fun _ _ _ _ _ => (pe_tup (pa_cons pe_str (pa_cons (pv 11) pa_nil))))) pa_nil)))) (pg_name (i := 7) sc_Walk_init.nd rfl (Or.inr rfl))
            (pss_cons (ps_set (i := 8) sc_Walk_init.nd rfl (Or.inl rfl) (pe_callTy (kTupOf K) (by rfl) T.z_tuple (by decide +kernel) (pa_cons (pe_lc (own := [("state", 10), ("rule", 9)]) (by rfl) sc_Walk_init.nd (CiR.pi_zipM (by rfl) T.z_zip (pa_cons (pv 5) (pa_cons (pv 1) pa_nil))) (blkOk_by (own := [("state", 10), ("rule", 9)]) (N := n_Walk_init) (sc := defScope s_Walk_init) (by decide +kernel)) (fun _ _ _ _ _ => (kTup K (n := 2) (pgs_cons (pg_name (i := 10) sc_Walk_init.nd rfl (Or.inl rfl)) (pgs_cons (pg_name (i := 9) sc_Walk_init.nd rfl (Or.inl rfl)) pgs_nil)))) (fun _ _ _ _ _ => pts_nil) (fun _ _ _ _ _ => (pe_c (cal_happened T) hr (by decide) rfl (pa_cons (pv 10) (pa_cons (pv 9) (pa_cons (pv 7) pa_nil)))))) pa_nil)))
            (pss_one (ps_expr (pe_mt (met_Walk_reach T) hr (by decide) (pv 0) (pa_cons (pv 8) (pa_cons (pe_tup (pa_cons (pv 3) (pa_cons (pe_tup (kStar K (pv 6) (pa_cons (pv 7) pa_nil))) pa_nil))) pa_nil))))))))
          pss_nil))))))))))), ?_⟩
    -- the three fields
    refine ⟨sz_of (by decide), fun s1 hs1 => ⟨_, rfl, p, _, dx, [], rfl, ?_, T.cl_Walk, T.na_Walk_spots, (by decide), ?_⟩⟩
    · have n1 : p ≠ s1 := fun z => by
        subst z
        rw [hp] at hs1
        cases hs1
      rw [upd_ne n1]
      exact hp
    have n1 : s1 ≠ p := fun z => by
      subst z
      rw [hp] at hs1
      cases hs1
    refine ⟨sz_of (by decide), fun s2 hs2 => ⟨_, rfl, p, _, dx, [("spots", .ref s1)], rfl, ?_, T.cl_Walk, T.na_Walk_histories, (by show 1 < 1000; decide), ?_⟩⟩
    · have n2 : p ≠ s2 := fun z => by
        subst z
        rw [upd_same] at hs2
        cases hs2
      rw [upd_ne n2]
      exact upd_same
    have n2 : s2 ≠ p := fun z => by
      subst z
      rw [upd_same] at hs2
      cases hs2
    have n3 : s2 ≠ s1 := fun z => by
      subst z
      rw [upd_ne n1, upd_same] at hs2
      cases hs2
    refine fun kn hkn => ⟨_, rfl, p, _, dx, [("spots", .ref s1), ("histories", .ref s2)], rfl, ?_, T.cl_Walk, T.na_Walk_known, (by show 2 < 1000; decide), ?_⟩
    · have n4 : p ≠ kn := fun z => by
        subst z
        rw [upd_same] at hkn
        cases hkn
      rw [upd_ne n4]
      exact upd_same
    have n4 : kn ≠ p := fun z => by
      subst z
      rw [upd_same] at hkn
      cases hkn
    have n5 : kn ≠ s2 := fun z => by
      subst z
      rw [upd_ne n2, upd_same] at hkn
      cases hkn
    have n6 : kn ≠ s1 := fun z => by
      subst z
      rw [upd_ne n1, upd_ne (Ne.symm n3), upd_ne n1, upd_same] at hkn
      cases hkn
    have f1 := Ex.mut (o := .lst []) e0 (fresh_back e0 hs1)
    have f2 := Ex.mut (o := .ins (aWalk K) dx [("spots", .ref s1)]) f1 hp0
    have f3 := Ex.mut (o := .lst []) f2 (fresh_back f2 hs2)
    have f4 := Ex.mut (o := .ins (aWalk K) dx [("spots", .ref s1), ("histories", .ref s2)]) f3 hp0
    have f5 := Ex.mut (o := .dT []) f4 (fresh_back f4 hkn)
    have f6 := Ex.mut (o := .ins (aWalk K) dx (wkF s1 s2 kn)) f5 hp0
    have z1 : H0 s1 = none := fresh_back e0 hs1
    have z2 : H0 s2 = none := fresh_back f2 hs2
    have z3 : H0 kn = none := fresh_back f4 hkn
    refine (?_ : ∀ H6, Ex H0 H6 → WkAt K H6 p dx s1 s2 kn [] → _) _ f6 ⟨upd_same, ⟨[], ?_, .nil⟩, ⟨[], ?_, .nil⟩, ⟨[], ?_, rfl⟩, Ne.symm n3⟩
    case refine_2 =>
      rw [upd_ne n1, upd_ne (Ne.symm n6), upd_ne n1, upd_ne (Ne.symm n3), upd_ne n1]
      exact upd_same
    case refine_3 =>
      rw [upd_ne n2, upd_ne (Ne.symm n5), upd_ne n2]
      exact upd_same
    case refine_4 =>
      rw [upd_ne n4]
      exact upd_same
    intro H6 e6 W6
    have hrs' : ∀ {H1}, Ex H0 H1 → Paired (fun x rows => ∀ H2, Ex H1 H2 → isRl K rows x H2) rxs rs := fun e1 => Paired.mapP hrs fun _ _ z H2 e2 => stb_isRl K _ _ _ _ (tOf (e1.trans e2)) z
    -- for start in (1, None)
    refine (s_for (as := [some 1, none]) (Ri := fun _ v x _ => x = vo v) (itt_ntup (xs := [.int 1, .non]) (ep_tup (ea_cons ev_c (ea_cons ev_c ea_nil)) (by show 2 ≤ 100000; decide)) (paired_vo _ [some 1, none]))
      (fun H2 i σ' H' => ExT H2 H' ∧ Ex H0 H' ∧ (∃ es, WkAt K H' p dx s1 s2 kn es ∧ WBase rs ws es ∧ (∀ x ∈ es, x.2.2.length = 0) ∧ ∀ j v, j < i → ([some 1, none] : List Val)[j]? = some v → Has es (firstS rs v) 0) ∧ ∃ u3 u4 u5 u6 u7 u8 u9 u10 u11, σ' = [some (.ref p), some (.ref rl), some wv, u3, u4, u5, u6, u7, u8, u9, u10, u11])
      (fun H2 e2 => ⟨ExT.refl _, e6.trans e2, ⟨[], W6.x e2, ⟨fun x h => (by cases h), List.nodup_nil, List.Pairwise.nil, fun x h => (by cases h)⟩, fun x h => (by cases h), fun j v h => absurd h (Nat.not_lt_zero j)⟩, none, none, none, none, none, none, none, none, none, rfl⟩) (fun H2 i σ' H' h => h.1) ?_ ?_)
    · rintro H2 i v x σ' Ha Hb e2 hv ⟨eT, eH, ⟨es, W, B, hz, hs⟩, u3, u4, u5, u6, u7, u8, u9, u10, u11, rfl⟩ eab rfl
      have Wb := W.x eab
      have eHb := eH.trans eab
      refine s_reach (S := firstS rs v) (h := (v, [])) Wb (ev_var rfl) (fun H5 e5 Q5 q5 => (eas_cons (R := isSpot K (firstS rs v)) (ep_imp (ep_tupOf (stb_isSt K) (ep_comp (R := isSt K) rs (fun _ => true) (fun _ => St.first v) (fun rows => isRl K rows) (fun rows σ2 _ => σ2[3]? = some (some (vo v))) (it_list (K := K) (ev_var rfl) (SqL.of (eHb _ _ hrl)) (hrs' eHb)) ?_ ?_ ?_ ?_ ?_)) fun v1 H7 _ h7 => ?_) (stb_isSpot K _).s (eas_cons (R := isD K (histD (v, []))) (ep_hist (ev_var rfl) (ep_imp (ep_tup (K := K) (vs := []) ea_nil (by decide)) fun v1 H7 _ ⟨a, ea, h7⟩ => ?_)) (stb_isD K (noL_hist _)).s eas_nil)) H5 e5 _ fun vs H7 e7 ⟨v1, r1, h1, ⟨a, h2, h3⟩, v2, r2, h4, h5, h6⟩ => ?_) ?_ (B.few rn2) fun H3 H4 e3 f W4 => ?_
      · rintro rows x H7 _ _ _ Kt kt
        exact kt _ rfl rfl
      · rintro rows σ2 H7 _ _ _
        exact ev_tYes
      · rintro rows σ2 H7 _ _ h _
        exact ep_first (ev_var h)
      · exact stb_isSt K
      · exact Nat.le_trans rn2 (by decide)
      · rw [sub_all] at h7
        exact isSpot_of h7
      · subst ea
        exact .tup h7 .nil
      · subst h1 h2 h4 h6
        exact q5 _ H7 e7 ⟨a, v2, rfl, h3, h5⟩
      · unfold firstS
        rw [List.length_map]
        exact rn2
      · have hst := isStart_of hv
        have z0 : ∀ y ∈ es, y.2.2.length ≤ 0 := fun y hy => Nat.le_of_eq (hz y hy)
        refine ⟨(eT.trans (tOf (eab.trans e3))).trans ((Wb.x e3).fr f), ex_fr (eHb.trans e3) f z1 z2 z3, ⟨_, W4, reach_base B (.start hst) z0 (Nat.zero_le _), fun y hy => ?_, fun j u hj hu => ?_⟩, _, u4, u5, u6, u7, u8, u9, u10, u11, rfl⟩
        · rcases reach_mem hy with h1 | rfl
          · exact hz y h1
          · rfl
        · by_cases hji : j < i
          · exact (hs j u hji hu).sub fun y hy => reach_sub hy
          · obtain rfl : j = i := by omega
            rw [hv] at hu
            cases hu
            exact reach_has (x := (firstS rs v, (v, []))) z0 (Nat.le_refl _)
    rintro H2 σ' H' e2 ⟨eT, eH, ⟨es, W, B, hz, hs⟩, u3, u4, u5, u6, u7, u8, u9, u10, u11, rfl⟩
    have I0 : WI rs ws es 0 := ⟨B, fun v hv => by
      rcases hv with rfl | rfl
      · exact hs 0 _ (by decide) rfl
      · exact hs 1 _ (by decide) rfl, fun j x hj => absurd hj (Nat.not_lt_zero j), fun x _ y hy => by rw [hz y hy]; exact Nat.zero_le _⟩
    clear hz hs
    -- while at < len(self.spots)
    refine q_asg ev_c fun H3 e3 => ?_
    refine s_while (W := fun m σ2 H4 => ∃ a es, Ex H0 H4 ∧ WkAt K H4 p dx s1 s2 kn es ∧ WI rs ws es a ∧ a ≤ es.length ∧ m = 5806081 - a ∧ ∃ u3 u5 u6 u7 u8 u9 u10 u11, σ2 = [some (.ref p), some (.ref rl), some wv, u3, some (.int (a : Nat)), u5, u6, u7, u8, u9, u10, u11]) _ ⟨0, es, eH.trans e3, W.x e3, I0, Nat.zero_le _, rfl, u3, u5, u6, u7, u8, u9, u10, u11, rfl⟩ ?_
    clear I0 B W eT eH es
    rintro m σ2 H4 ⟨a, es, eH, W, I, hal, rfl, u3, u5, u6, u7, u8, u9, u10, u11, rfl⟩
    obtain ⟨o1, ⟨xs, o2, o3⟩, ⟨ys, o4, o5⟩, _, _⟩ := id W
    have lx : xs.length = es.length := Paired.length o3
    have ly : ys.length = es.length := Paired.length o5
    have few := I.base.few rn2
    refine ⟨decide (a < es.length), et_is (et_test (ev_op (x := .int (a : Nat)) (y := .int (xs.length : Nat)) (ev_var rfl) (ev_lenL (ev_fld (ev_var rfl) o1 T.cl_Walk T.na_Walk_spots rfl) o2) rv_I0)) ?_, fun hb H5 e5 => ?_, fun hb H5 e5 => ?_⟩
    · show decide ((a : Int) < (xs.length : Int)) = _
      rw [lx]
      by_cases z : a < es.length
      · rw [decide_eq_true z, decide_eq_true (by omega)]
      · rw [decide_eq_false z, decide_eq_false (by omega)]
    · have hlt : a < es.length := of_decide_eq_true hb
      clear o1 o2 o3 o4 o5 lx ly xs ys
      have W5 := W.x e5
      have eH5 := eH.trans e5
      obtain ⟨o1, ⟨xs, o2, o3⟩, ⟨ys, o4, o5⟩, _, _⟩ := id W5
      have lx : xs.length = es.length := Paired.length o3
      have ly : ys.length = es.length := Paired.length o5
      obtain ⟨xv, hxv⟩ : ∃ xv, xs[a]? = some xv := ⟨_, List.getElem?_eq_getElem (by omega)⟩
      obtain ⟨yv, hyv⟩ : ∃ yv, ys[a]? = some yv := ⟨_, List.getElem?_eq_getElem (by omega)⟩
      obtain ⟨x0, hx0, sx⟩ := paired_get o3 hxv
      obtain ⟨x0', hx0', sy⟩ := paired_get o5 hyv
      rw [hx0] at hx0'
      cases hx0'
      obtain ⟨S, v0, evl⟩ := x0
      obtain ⟨sa, rfl, hS⟩ := sx
      obtain ⟨hy, zs, rfl, hhy, hzs⟩ := dp_tup sy
      have pS : S.length = rs.length := path_len (I.base.path _ (List.mem_of_getElem? hx0))
      cases hzs with | cons q1 q2 => cases q2 with | cons q3 q4 =>
      cases q4
      rename_i w1 w2
      have ew : w1 = vo v0 := dp_vo q1
      subst ew
      obtain ⟨el, exs, rfl, hel, hevs⟩ := dp_tup q3
      refine ⟨fun σ3 H' => ∃ es', Ex H0 H' ∧ WkAt K H' p dx s1 s2 kn es' ∧ WI rs ws es' (a + 1) ∧ a + 1 ≤ es'.length ∧ ∃ u3 u5 u6 u7 u8 u9 u10 u11, σ3 = [some (.ref p), some (.ref rl), some wv, u3, some (.int ((a : Int) + 1)), u5, u6, u7, u8, u9, u10, u11], fun σ3 H' ⟨es', h1, h2, h3, h4, h5⟩ => ⟨5806081 - (a + 1), by omega, a + 1, es', h1, h2, h3, h4, rfl, h5⟩, ?_⟩
      refine qp_asgG (ep_tup (K := K) (vs := [.ref sa, .ref hy]) (ea_cons (ev_op (ev_fld (ev_var rfl) o1 T.cl_Walk T.na_Walk_spots rfl) (ev_var rfl) (rv_ixL (SqL.of o2) (atI_nat hxv))) (ea_cons (ev_op (ev_fld (ev_var rfl) o1 T.cl_Walk T.na_Walk_histories rfl) (ev_var rfl) (rv_ixL (SqL.of o4) (atI_nat hyv))) ea_nil)) (by show 2 ≤ 100000; decide)) fun v Hc ec ⟨t, ev, ht⟩ => ?_
      subst ev
      refine ⟨t, _, rfl, ht, rfl, .ref sa, _, rfl, .ref hy, _, rfl, ⟨hy, _, rfl, ex_t ec hhy, rfl, vo v0, _, rfl, .ref el, _, rfl, rfl, rfl, ?_⟩⟩
      refine s_aug (f := fun i j => i + j) (a := (a : Int)) (b := 1) rfl ev_c fun H7 e7 => ?_
      have e57 := ec.trans e7
      have hS7 : SpAt K H7 sa S := hS.t (tOf e57)
      have W7 := W5.x e57
      obtain ⟨s0, S', rfl⟩ : ∃ s0 S', S = s0 :: S' := by
        cases S with
        | nil =>
          rw [← pS] at rn1
          exact absurd rn1 (by decide)
        | cons s0 S' => exact ⟨s0, S', rfl⟩
      obtain ⟨txs, hxs, hps⟩ := id hS7
      have tst : Ev (tCB (rAll K) (tCons (tLc (iTup K (tVar 5)) (gName 10) tYes (tOp rEq (tFld K (tVar 10) "here") (tFld K (tOp (rIxT K) (tVar 5) (tC (.int 0))) "here")) [10]) tNil)) [some (.ref p), some (.ref rl), some wv, some (vo v0), some (.int ((a : Int) + 1)), some (.ref sa), some (.ref el), u7, u8, u9, u10, u11] H7 (.bl (agree (s0 :: S'))) := by
        refine ev_is (ev_allP (bs := ((s0 :: S').filter fun _ => true).map fun s => decide (s.here = s0.here)) (ep_comp (R := fun b => isV (.bl b)) (s0 :: S') (fun _ => true) (fun s => decide (s.here = s0.here)) (fun s => isSt K s) (fun s σ2 H' => (∃ q, σ2[10]? = some (some (.ref q)) ∧ StAt K H' q s) ∧ σ2[5]? = some (some (.ref sa))) (it_tup (ev_var rfl) hxs (Paired.mapP hps fun _ _ z H1 e1 => stb_isSt K _ _ _ _ (tOf e1) z)) ?_ ?_ ?_ ?_ ?_)) (congrArg V.bl (all_map _ _))
        · rintro s x H' _ _ ⟨q, rfl, Sq⟩ Kt kt
          exact kt _ rfl ⟨⟨q, rfl, Sq⟩, rfl⟩
        · rintro s σ2 H' _ _ _
          exact ev_tYes
        · rintro s σ2 H' hm e' ⟨⟨q, hq, Sq⟩, h5⟩ _
          cases hps with
          | cons r0 _ =>
            obtain ⟨q0, rfl, Sq0⟩ := r0
            exact ep_v (ev_eqv (ev_here T Sq (ev_var hq)) (ev_here T (Sq0.x e') (ev_op (ev_var h5) ev_c (rv_ixT (ex_t e' hxs) (atI_nat (j := 0) rfl)))))
        · exact fun b _ _ _ _ h => h
        · rw [pS]
          exact Nat.le_trans rn2 (by decide)
      refine s_when (b := agree (s0 :: S')) (et_B tst) (fun hg H8 e8 => ?_) (fun hg H8 e8 => ?_)
      · generalize hSS : s0 :: S' = S at *
        have W8 := W7.x e8
        have eH8 := (eH5.trans e57).trans e8
        have hS8 := hS7.t (tOf e8)
        have dW8 := dpT (tOf eH8) _ _ (noL_ws ws) dW
        have hA : ∀ H, SqT K H an [.str "yes", .str "no"] := fun H => by
          obtain ⟨b, e, h⟩ := dp_strs (ss := ["yes", "no"]) (dA H)
          cases e
          exact h
        have stE : ∀ (evs : List Evt) (vs : List V) H1 H2, ExT H1 H2 → Paired (fun y e => isD K (evD e) y H1) vs evs → Paired (fun y e => isD K (evD e) y H2) vs evs := fun evs vs H1 H2 e h => Paired.mapP h fun _ _ z => stb_isD K (noL_ev _) _ _ _ e z
        refine s_forNLs (Rs := fun vs H9 => ∃ evs, Paired (fun y e => isD K (evD e) y H9) vs (evs ++ [Evt.carry true, Evt.carry false]) ∧ EvsFor S ws evs ∧ evs.length ≤ 45) (fun H9 e9 Q9 q9 => (eas_starL (R := evsP K S ws) (Rx := fun xs H1 => ∃ evs, Paired (fun y e => isD K (evD e) y H1) xs evs ∧ EvsFor S ws evs ∧ evs.length ≤ 45) (ep_call (sp := spEventsFor K) (ea_cons (ev_var rfl) (ea_cons (ev_var rfl) ea_nil)) fun H1 e Q k E => ⟨sa, S, wv, ws, rfl, hS8.t (tOf e), by omega, nd, dpT (tOf e) _ _ (noL_ws ws) dW8, k⟩) ?_ ?_
          (eas_starL (R := LsP (fun e => isD K (evD e)) [Evt.carry true, Evt.carry false]) (Rx := fun xs H1 => Paired (fun y e => isD K (evD e) y H1) xs [Evt.carry true, Evt.carry false]) (ep_comp (R := fun e => isD K (evD e)) [true, false] (fun _ => true) (fun b => Evt.carry b) (fun b x _ => x = .str (ansS b)) (fun b σ2 _ => σ2[11]? = some (some (.str (ansS b)))) (it_tup (K := K) ev_c (hA _) (.cons (fun _ _ => rfl) (.cons (fun _ _ => rfl) .nil))) ?_ ?_ ?_ ?_ (by decide)) ?_ ?_ eas_nil)) H9 e9 _ fun vs H10 e10 ⟨xs, r, h1, ⟨evs, h2, h3, h4⟩, xs2, r2, h5, h6, h7⟩ => ?_) ?_ ?_
        · rintro v H1 ⟨evs, ⟨q, xs, rfl, h1, h2⟩, h3, h4⟩
          exact ⟨q, xs, rfl, h1, evs, h2, h3, h4⟩
        · rintro xs H1 H2 e ⟨evs, h2, h3, h4⟩
          exact ⟨evs, stE _ _ _ _ (tOf e) h2, h3, h4⟩
        · rintro b x H1 _ _ rfl Kt kt
          exact kt _ rfl rfl
        · rintro b σ2 H1 _ _ _
          exact ev_tYes
        · rintro b σ2 H1 _ _ h11 _
          refine ep_imp (ep_tup (K := K) (vs := [.str "carry", .str (ansS b)]) (ea_cons ev_c (ea_cons (ev_var h11) ea_nil)) (by show 2 ≤ 100000; decide)) fun v H6 _ ⟨q, ev, h⟩ => ?_
          subst ev
          exact .tup h (.cons (.str _) (.cons (.str _) .nil))
        · exact fun e => stb_isD K (noL_ev e)
        · rintro v H1 ⟨q, xs, rfl, h1, h2⟩
          exact ⟨q, xs, rfl, h1, h2⟩
        · exact fun xs H1 H2 e h => stE _ _ _ _ (tOf e) h
        · subst h1 h5 h7
          rw [List.append_nil]
          exact q9 _ H10 e10 ⟨evs, paired_app h2 h6, h3, h4⟩
        · rintro vs H1 ⟨evs, h1, h2, h3⟩
          have := Paired.length h1
          rw [List.length_append] at this
          have l2 : ([Evt.carry true, Evt.carry false] : List Evt).length = 2 := rfl
          omega
        · rintro vs q H9 e9 ⟨evs, hq, hE, hz⟩ hqn
          have W9 := W8.x e9
          have eH9 := eH8.trans e9
          have lv : vs.length = (evs ++ [Evt.carry true, Evt.carry false]).length := Paired.length hq
          have m1 : q ≠ s1 := fun z => by
            subst z
            obtain ⟨_, ⟨xs, h, _⟩, _⟩ := W9
            rw [hqn] at h
            cases h
          have m2 : q ≠ s2 := fun z => by
            subst z
            obtain ⟨_, _, ⟨xs, h, _⟩, _⟩ := W9
            rw [hqn] at h
            cases h
          have m3 : q ≠ kn := fun z => by
            subst z
            obtain ⟨_, _, _, ⟨xs, h, _⟩, _⟩ := W9
            rw [hqn] at h
            cases h
          have en : Ex H9 (L2.upd H9 q (.lst vs)) := Ex.new hqn
          refine s_forL (xs := vs) ev_c (SqL.of upd_same) (fun i σ' H' => Ex H0 H' ∧ ExT (L2.upd H9 q (.lst vs)) H' ∧ H' q = some (.lst vs) ∧ (∃ es', WkAt K H' p dx s1 s2 kn es' ∧ WJ rs ws es' a (S, (v0, evl)) ((evs ++ [Evt.carry true, Evt.carry false]).take i)) ∧ ∃ u7 u8 u9 u10 u11, σ' = [some (.ref p), some (.ref rl), some wv, some (vo v0), some (.int ((a : Int) + 1)), some (.ref sa), some (.ref el), u7, u8, u9, u10, u11]) (fun H1 e1 => ⟨(eH9.trans en).trans e1, tOf e1, e1 _ _ upd_same, ⟨es, (W9.x en).x e1, I.enter hx0⟩, u7, u8, u9, u10, u11, rfl⟩) (fun i σ' H' _ h => SqL.of h.2.2.1) ?_ ?_
          · rintro i x σ' H' hx ⟨eH', eT', hq', ⟨es', W', J⟩, u7, u8, u9, u10, u11, rfl⟩
            obtain ⟨e, he, de⟩ := paired_get hq hx
            have eT9 : ExT H9 H' := (tOf en).trans eT'
            have eT7 : ExT H7 H' := (tOf (e8.trans e9)).trans eT9
            have eT5 : ExT H5 H' := (tOf e57).trans eT7
            have hein : e.inW ws := by
              rcases List.mem_append.mp (List.mem_of_getElem? he) with h | h
              · exact hE.inw e h
              · rcases List.mem_cons.mp h with rfl | h
                · trivial
                · rw [List.mem_singleton.mp h]
                  trivial
            have de' := stb_isD K (noL_ev e) _ _ _ eT9 de
            refine qp_asg (R := isSpot K (stepS rs S e)) (ep_imp (ep_tupOf (stb_isSt K) (ep_comp (R := isSt K) (S.zip rs) (fun _ => true) (fun c => happened c.1 c.2 e) (fun c x H1 => ∃ t y z, x = .ref t ∧ H1 t = some (.tup [y, z]) ∧ isSt K c.1 y H1 ∧ isRl K c.2 z H1) (fun c σ2 H1 => ∃ q r notes, σ2[10]? = some (some (.ref q)) ∧ σ2[9]? = some (some (.ref r)) ∧ σ2[7]? = some (some x) ∧ StAt K H1 q c.1 ∧ RlAt K H1 r notes c.2) (it_zipM (K := K) (ea_cons (ev_var rfl) (ea_cons (ev_var rfl) ea_nil)) (sqT eT7 hxs) (SqL.of (eH' _ _ hrl)) (Paired.mapP hps fun _ _ z H1 e1 => stb_isSt K _ _ _ _ (eT7.trans (tOf e1)) z) (hrs' eH')) ?_ ?_ ?_ ?_ ?_)) fun v1 H1 _ h7 => ?_) fun v1 H10 e10 ⟨la, ev, hla⟩ => ?_
            · rintro ⟨s, rows⟩ x1 H1 _ e1 ⟨t, y, z, rfl, ht, ⟨q1, rfl, Sq⟩, ⟨r1, notes, rfl, Rq⟩⟩ Kt kt
              exact ⟨t, _, rfl, SqT.of ht, rfl, .ref q1, _, rfl, .ref r1, _, rfl, rfl, kt _ rfl ⟨q1, r1, notes, rfl, rfl, rfl, Sq, Rq⟩⟩
            · rintro c σ2 H1 _ _ _
              exact ev_tYes
            · rintro ⟨s, rows⟩ σ2 H1 _ e1 ⟨q1, r1, notes, h10, h9, h7, Sq, Rq⟩ _
              exact ep_call (sp := spHappened K) (ea_cons (ev_var h10) (ea_cons (ev_var h9) (ea_cons (ev_var h7) ea_nil))) fun H2 e2 Q k E => ⟨q1, s, r1, notes, rows, x, e, rfl, Sq.x e2, Rq.x e2, stb_isD K (noL_ev e) _ _ _ (tOf (e1.trans e2)) de', ok_of hein, k⟩
            · exact stb_isSt K
            · rw [List.length_zip]
              exact Nat.le_trans (Nat.min_le_right _ _) (Nat.le_trans rn2 (by decide))
            · rw [sub_all] at h7
              exact isSpot_of h7
            · subst ev
              have hevs' : DpAll K H10 exs (evl.map evD) := dpsT (eT5.trans (tOf e10)) _ _ (noLs_map evD noL_ev evl) hevs
              have de10 := stb_isD K (noL_ev e) _ _ _ (tOf e10) de'
              refine s_reach (S := stepS rs S e) (h := (v0, evl ++ [e])) (W'.x e10) (ev_var rfl) (fun H11 e11 Q11 q11 => (eas_v (v := .ref la) (ev_var rfl) (eas_cons (R := isD K (histD (v0, evl ++ [e]))) (ep_hist (ev_var rfl) (ep_imp (ep_tupB (K := K) (ea_star (ev_var rfl) (sqT (eT5.trans (tOf e10)) hel) (ea_cons (ev_var rfl) ea_nil)) ?_) fun v1 H1 e1 ⟨b, eb, hb⟩ => ?_)) (stb_isD K (noL_hist _)).s eas_nil)) H11 e11 _ fun vs1 H12 e12 ⟨r1, g1, v2, r2, g2, g3, g4⟩ => ?_) ?_ (J.base.few rn2) fun H11 H12 e11 f W12 => ?_
              · have h1 := dps_len hevs
                rw [List.length_map] at h1
                have h2 := J.base.lens _ (List.mem_of_getElem? J.here)
                have h3 := J.base.few rn2
                have h4 := big_line
                have h5 : ([x] : List V).length = 1 := rfl
                have h6 : (S, v0, evl).2.2.length = evl.length := rfl
                rw [List.length_append, h1]
                omega
              · subst g1 g2 g4
                exact q11 _ H12 e12 ⟨la, v2, rfl, hla.t (tOf (e11.trans e12)), g3⟩
              · subst eb
                rw [List.map_append]
                exact .tup hb (dps_app (dpsT (tOf e1) _ _ (noLs_map evD noL_ev evl) hevs') (.cons (stb_isD K (noL_ev e) _ _ _ (tOf e1) de10) .nil))
              · unfold stepS
                rw [List.length_map, List.length_zip]
                exact Nat.le_trans (Nat.min_le_right _ _) rn2
              · refine ⟨ex_fr ((eH'.trans e10).trans e11) f z1 z2 z3, (eT'.trans (tOf (e10.trans e11))).trans ((W'.x (e10.trans e11)).fr f), f _ _ m1 m2 m3 (e11 _ _ (e10 _ _ hq')), ⟨_, W12, ?_⟩, _, _, u9, u10, u11, rfl⟩
                rw [take_next he]
                exact J.turn hg hein
          · rintro σ' H' ⟨eH', eT', hq', ⟨es', W', J⟩, u7, u8, u9, u10, u11, rfl⟩
            rw [lv, take_all] at J
            have hal' : a < es'.length := (List.getElem?_eq_some_iff.mp J.here).1
            exact ⟨es', eH', W', J.leave hE, hal', _, _, _, u7, u8, u9, u10, u11, rfl⟩
      · exact ⟨es, (eH5.trans e57).trans e8, W7.x e8, I.skip hx0 hg, hlt, _, _, _, u7, u8, u9, u10, u11, rfl⟩
    · have hae : a = es.length := by
        have : ¬ a < es.length := of_decide_eq_false hb
        omega
      subst hae
      exact k H5 (eH.trans e5) s1 s2 kn es (W.x e5) I.fin
end
end Ci

set_option Elab.async false
set_option linter.all false
set_option maxRecDepth 100000
set_option maxHeartbeats 4000000
/-! walked, with_event, fault_behind, faults_by, least_fault, faults. -/
namespace Ci
open PySem PySem.Spec PyProof.Rows L2 Evl
open C8 (Cal Met Mak pe_c pe_mk pe_mt pe_mt0 pe_gc)

/-! ### general forms -/
section
variable {K : PySem.W.Frag} {σ : L2.St} {H : Hp} {ta tb te tl tw : TE} {tt t : TA} {D : Ends} {R : Pr} {g : TG} {tu : TS} {E : XK} {wi : TI} {α : Type}
theorem s_forX (h : EvP tl σ H R) (k : ∀ v H1, Ex H H1 → R v H1 → tFor (iList K (tC v)) g tu D σ H1) : tFor (iList K tl) g tu D σ H := h H (Ex.refl _) _ k
theorem s_forI {as : List α} {Ri : α → Pr} (hi : ItP wi σ H as Ri) (Pv : Hp → Nat → L2.St → Hp → Prop) (h0 : ∀ H2, Ex H H2 → Pv H2 0 σ H2) (hT : ∀ H2 i σ' H', Pv H2 i σ' H' → Ex H2 H')
    (hs : ∀ H2 i a x σ' Ha Hb, Ex H H2 → as[i]? = some a → Pv H2 i σ' Ha → Ex Ha Hb → Ri a x Hb → g x σ' Hb fun σ2 H3 => tu { D with nx := Pv H2 (i + 1), ct := Pv H2 (i + 1), bk := D.nx } σ2 H3)
    (hd : ∀ H2 σ' H', Ex H H2 → Pv H2 as.length σ' H' → D.nx σ' H') : tFor wi g tu D σ H :=
  hi H (Ex.refl _) _ fun J H2 G Y e2 hG w hY => for_it w (Pv H2) (h0 H2 e2) (fun i σ' H' _ p => hG H' (hT H2 i σ' H' p)) (fun i x σ' Ha Hb hlt p y => by
    obtain ⟨a, ha, eab, ri⟩ := hY i Ha x Hb (hT H2 i σ' Ha p) y hlt
    exact hs H2 i a x σ' Ha Hb e2 ha p eab ri) fun σ' H' p => hd H2 σ' H' e2 p
theorem it_ls {as : List α} {Ra : α → Pr} {v : V} (st : ∀ a, StbT (Ra a)) (h : LsP Ra as v H) : ItP (iList K (tC v)) σ H as Ra := by
  obtain ⟨p, ys, rfl, hp, hq⟩ := h
  exact it_list ev_c (SqL.of hp) (Paired.mapP hq fun _ _ z H1 e1 => st _ _ _ _ (tOf e1) z)
def walkP (K : PySem.W.Frag) (rs : List Rl) (ws : List Word) : Pr := fun v H => ∃ p dx sp hi kn es, v = .ref p ∧ WkAt K H p dx sp hi kn es ∧ WDone rs ws es
theorem ep_Walk {rs : List Rl} {ws : List Word} {xs : List V} {wv : V} (h : EvA tt σ H xs) (hx : Paired (fun x rows => isRl K rows x H) xs rs) (hw : Ev tw σ H wv) (r1 : 1 ≤ rs.length) (r2 : rs.length ≤ 2) (nd : ws.Nodup) (dW : Dp K H wv (wsD ws)) :
    EvP (tMake (aWalk K) (spWalkInit K) [] E (tCons (tLst tt) (tCons tw tNil))) σ H (walkP K rs ws) := fun H1 e1 Q q =>
  h H1 e1 _ fun H2 e2 => ⟨sz_of (by rw [Paired.length hx]; omega), fun l hl => hw _ ((e1.trans e2).trans (Ex.new hl)) _ fun H3 e3 => fun x dx nx ndx nex => by
    have e13 : Ex H1 H3 := (e2.trans (Ex.new hl)).trans e3
    have n0 : (L2.upd H3 dx (.own x)) x = none := by
      rw [upd_ne (Ne.symm nex)]
      exact nx
    have e03 : Ex H (L2.upd H3 dx (.own x)) := (e1.trans e13).trans (Ex.new ndx)
    exact ⟨x, l, wv, dx, L2.upd H3 dx (.own x), rs, ws, xs, rfl, upd_same, n0, Ex.new n0, (Ex.new ndx) _ _ (e3 _ _ upd_same), Paired.mapP hx fun _ _ z => stb_isRl K _ _ _ _ (tOf e03) z, r1, r2, nd, dpT (tOf e03) _ _ (noL_ws ws) dW,
      fun H' e' sp hi kn es W Wd => ⟨rfl, q _ H' ((e13.trans (Ex.new ndx)).trans e') ⟨x, dx, sp, hi, kn, es, rfl, W, Wd⟩⟩⟩⟩
/-- over zip of two lists -/
theorem it_zip2 {a b : Addr} {xs ys : List V} {as : List α} {Ra Rb : α → Pr} (h : EvA tt σ H [.ref a, .ref b]) (hx : SqL K H a xs) (hy : SqL K H b ys) (hp : Paired (fun x s => ∀ H1, Ex H H1 → Ra s x H1) xs as) (hq : Paired (fun x s => ∀ H1, Ex H H1 → Rb s x H1) ys as) :
    ItP (iZip K tt) σ H as (fun c x H1 => ∃ t y z, x = .ref t ∧ H1 t = some (.tup [y, z]) ∧ Ra c y H1 ∧ Rb c z H1) := fun H1 e1 Rk k =>
  h H1 e1 _ fun H2 e2 => ⟨a, b, xs, ys, rfl, ex_l (e1.trans e2) hx, ex_l (e1.trans e2) hy, k (Itz K a b) H2 (fun H' => SqL K H' a xs ∧ SqL K H' b ys) _ e2 (fun H3 e3 => ⟨ex_l ((e1.trans e2).trans e3) hx, ex_l ((e1.trans e2).trans e3) hy⟩) (walk_zip (by rw [Paired.length hp, Paired.length hq, Nat.min_self])) fun i Ha x Hb ea y hi => by
    obtain ⟨t, x1, y1, rfl, ht, rfl, e3, e4⟩ := y
    obtain ⟨c, hc, rc⟩ := paired_get hp e3
    obtain ⟨d, hd, rd⟩ := paired_get hq e4
    rw [hc] at hd
    cases hd
    have en : Ex H (L2.upd Ha t (.tup [x1, y1])) := ((e1.trans e2).trans ea).trans (Ex.new ht)
    exact ⟨c, hc, Ex.new ht, t, x1, y1, rfl, upd_same, rc _ en, rd _ en⟩⟩
end
def entP (K : PySem.W.Frag) (e : Ent) : Pr := fun v H => ∃ t q hv s, v = .ref t ∧ SqT K H t [.ref q, hv] ∧ e.1 = [s] ∧ StAt K H q s ∧ Dp K H hv (histD e.2)
theorem stb_entP (K : PySem.W.Frag) (e : Ent) : StbT (entP K e) := fun _ _ _ x ⟨t, q, hv, s, h1, h2, h3, h4, h5⟩ => ⟨t, q, hv, s, h1, sqT x h2, h3, h4.t x, dpT x _ _ (noL_hist _) h5⟩
def walkedP (K : PySem.W.Frag) (rows : Rl) (ws : List Word) : Pr := fun v H => ∃ es, WDone [rows] ws es ∧ LsP (entP K) es v H
section
variable {P : Program} {w : World} {K : PySem.W.Frag} {mg : Str → Option Value} {base : Heap}
def spWalked (K : PySem.W.Frag) : Sp := fun vs H Q _ => ∃ r wv notes rows ws, vs = [.ref r, wv] ∧ RlAt K H r notes rows ∧ ws.Nodup ∧ Dp K H wv (wsD ws) ∧ RetP (walkedP K rows ws) H Q
theorem cal_walked (T : Txt K mg) : Cal P w K mg base 8 "walked" (spWalked K) [] := by
  obtain ⟨fd, F⟩ := T.f_walked
  refine calD F T.g_walked (F.bindsN fun _ _ _ _ _ _ us hl => match us, hl with | [_, _], _ => rfl) sc_walked (fun vs H Q E h => ?_) (fun cdv A outer s H vs Q E hr h => ?_)
  · obtain ⟨r, wv, notes, rows, ws, rfl, _⟩ := h
    rfl
  · obtain ⟨r, wv, notes, rows, ws, rfl, Rr, nd, dW, k⟩ := h
    refine ⟨_, (pss_cons (ps_set (i := 2) sc_walked.nd rfl (Or.inl rfl) (pe_mk (mak_Walk T) hr (by decide) rfl (pa_cons (pe_lst (pa_cons (pv 0) pa_nil)) (pa_cons (pv 1) pa_nil))))
      (pss_one (ps_ret (pe_lc (own := [("spot", 3), ("history", 4)]) (by rfl) sc_walked.nd (pi_zip (by rfl) T.z_zip (pa_cons (pf K (pv 2)) (pa_cons (pf K (pv 2)) pa_nil))) (blkOk_by (own := [("spot", 3), ("history", 4)]) (N := n_walked) (sc := defScope s_walked) (by decide +kernel)) (fun _ _ _ _ _ => (kTup K (n := 2) (pgs_cons (pg_name (i := 3) sc_walked.nd rfl (Or.inl rfl)) (pgs_cons (pg_name (i := 4) sc_walked.nd rfl (Or.inl rfl)) pgs_nil)))) (fun _ _ _ _ _ => pts_nil) (fun _ _ _ _ _ => (pe_tup (pa_cons (pix (kIxT K) (pv 3) pe_int) (pa_cons (pv 4) pa_nil)))))))), ?_⟩
    refine qp_asg (ep_Walk (rs := [rows]) (ws := ws) (ea_cons (ev_var rfl) ea_nil) (.cons ⟨r, notes, rfl, Rr⟩ .nil) (ev_var rfl) (Nat.le_refl 1) (Nat.le_succ 1) nd dW) fun v H1 e1 ⟨p, dx, sp, hi, kn, es, ev, W, Wd⟩ => ?_
    subst ev
    have W' : WkAt K H1 p dx sp hi kn es := W
    obtain ⟨o1, ⟨xs, o2, o3⟩, ⟨ys, o4, o5⟩, _, _⟩ := id W'
    refine sp_ret (ep_comp (R := entP K) es (fun _ => true) (fun e => e) (fun c x H1 => ∃ t y z, x = .ref t ∧ H1 t = some (.tup [y, z]) ∧ isSpot K c.1 y H1 ∧ Dp K H1 z (histD c.2)) (fun e σ2 H2 => ∃ a hv, σ2[3]? = some (some (.ref a)) ∧ σ2[4]? = some (some hv) ∧ SpAt K H2 a e.1 ∧ Dp K H2 hv (histD e.2))
      (it_zip2 (K := K) (as := es) (Ra := fun (e : Ent) => isSpot K e.1) (Rb := fun (e : Ent) v H => Dp K H v (histD e.2)) (ea_cons (ev_fld (ev_var rfl) o1 T.cl_Walk T.na_Walk_spots rfl) (ea_cons (ev_fld (ev_var rfl) o1 T.cl_Walk T.na_Walk_histories rfl) ea_nil)) (SqL.of o2) (SqL.of o4) (Paired.mapP o3 fun _ _ z H2 e2 => stb_isSpot K _ _ _ _ (tOf e2) z) (Paired.mapP o5 fun _ _ z H2 e2 => stb_isD K (noL_hist _) _ _ _ (tOf e2) z)) ?_ ?_ ?_ ?_ ?_) fun v H2 e2 h => ?_
    · rintro e x H2 _ _ ⟨t, y, z, rfl, ht, ⟨a, rfl, hS⟩, hD⟩ Kt kt
      exact ⟨t, _, rfl, SqT.of ht, rfl, .ref a, _, rfl, z, _, rfl, rfl, kt _ rfl ⟨a, z, rfl, rfl, hS, hD⟩⟩
    · rintro e σ2 H2 _ _ _
      exact ev_tYes
    · rintro e σ2 H2 hm _ ⟨a, hv, h3, h4, ⟨txs, hS, hq⟩, hD⟩ _
      obtain ⟨s, hs⟩ := ent_one Wd hm
      rw [hs] at hq
      cases hq with
      | cons q0 qr =>
        obtain ⟨q, rfl, Sq⟩ := q0
        refine ep_imp (ep_tup (K := K) (vs := [.ref q, hv]) (ea_cons (ev_op (ev_var h3) ev_c (rv_ixT hS (atI_nat (j := 0) rfl))) (ea_cons (ev_var h4) ea_nil)) (by show 2 ≤ 100000; decide)) fun v H3 e3 ⟨t, et, ht⟩ => ?_
        exact ⟨t, q, hv, s, et, ht, hs, Sq.x e3, dpT (tOf e3) _ _ (noL_hist _) hD⟩
    · exact stb_entP K
    · exact Nat.le_trans (Wd.few1 (Nat.le_refl _)) (by decide)
    · rw [sub_all, List.map_id'] at h
      exact k v H2 (e1.trans e2) ⟨es, Wd, h⟩
def spWithEvent (K : PySem.W.Frag) : Sp := fun vs H Q _ => ∃ hv ev h e, vs = [hv, ev] ∧ Dp K H hv (histD h) ∧ Dp K H ev (evD e) ∧ h.2.length ≤ 6000000 ∧ RetP (isD K (histD (h.1, h.2 ++ [e]))) H Q
theorem cal_with_event (T : Txt K mg) : Cal P w K mg base 1 "with_event" (spWithEvent K) [] := by
  obtain ⟨fd, F⟩ := T.f_with_event
  refine calD F T.g_with_event (F.bindsN fun _ _ _ _ _ _ us hl => match us, hl with | [_, _], _ => rfl) sc_with_event (fun vs H Q E h => ?_) (fun cdv A outer s H vs Q E hr h => ?_)
  · obtain ⟨hv, ev, h, e, rfl, _⟩ := h
    rfl
  · obtain ⟨hv, ev, ⟨v0, el⟩, e, rfl, hD, eD, hl, k⟩ := h
    refine ⟨_, (pss_one (ps_ret (pe_tup (pa_cons (pix (kIxT K) (pv 0) pe_int) (pa_cons (pe_tup (kStar K (pix (kIxT K) (pv 0) pe_int) (pa_cons (pv 1) pa_nil))) pa_nil))))), ?_⟩
    obtain ⟨t, zs, rfl, ht, hzs⟩ := dp_tup hD
    cases hzs with | cons q1 q2 => cases q2 with | cons q3 q4 =>
    cases q4
    rename_i w1 w2
    have ew : w1 = vo v0 := dp_vo q1
    subst ew
    obtain ⟨b, exs, rfl, hel, hevs⟩ := dp_tup q3
    refine sp_ret (ep_hist (v := v0) (el := el ++ [e]) (ev_op (ev_var rfl) ev_c (rv_ixT ht (atI_nat (j := 0) rfl))) (ep_imp (ep_tupB (K := K) (ea_star (ev_op (ev_var rfl) ev_c (rv_ixT ht (atI_nat (j := 1) rfl))) hel (ea_cons (ev_var rfl) ea_nil)) ?_) fun v1 H1 e1 ⟨c, ec, hc⟩ => ?_)) k
    · have h1 := dps_len hevs
      rw [List.length_map] at h1
      have h4 : 6000001 ≤ sizeLine := by decide
      have h5 : ([ev] : List V).length = 1 := rfl
      have h6 : (v0, el).2.length = el.length := rfl
      rw [List.length_append, h1]
      omega
    · subst ec
      rw [List.map_append]
      exact .tup hc (dps_app (dpsT (tOf e1) _ _ (noLs_map evD noL_ev el) hevs) (.cons (stb_isD K (noL_ev e) _ _ _ (tOf e1) eD) .nil))
end
end Ci

set_option linter.all false
/-! Plain Lean: what the finders tell. -/
namespace Ci
def Fa (rows : Rl) (y : Way) (f : Flt) (s : St) : Prop := ∃ a : Bool, (y, f) ∈ s.faults (s.carried rows a)
theorem fa_keeps (rows : Rl) (y : Way) (f : Flt) : Keeps (Fa rows y f) := fun R B s t h ⟨a, ha⟩ => ⟨a, by rw [← h.faults B (h.carried B a rows)]; exact ha⟩
/-- somewhere F -/
def Somew (rows : Rl) (ws : List Word) (F : St → Prop) : Prop := ∃ s h, Path [rows] ws [s] h ∧ F s
def Faulty (rows : Rl) (ws : List Word) (y : Way) (f : Flt) : Prop := Somew rows ws (Fa rows y f)
def LeastF (rows : Rl) (ws : List Word) (y : Way) (f : Flt) (n : Nat) : Prop := (∃ s h, Path [rows] ws [s] h ∧ h.2.length = n ∧ Fa rows y f s) ∧ ∀ s h, Path [rows] ws [s] h → Fa rows y f s → n ≤ h.2.length
theorem Somew.mono {rows : Rl} {ws ws' : List Word} {F : St → Prop} (h : ∀ w ∈ ws, w ∈ ws') (x : Somew rows ws F) : Somew rows ws' F := by
  obtain ⟨s, k, p, f⟩ := x
  exact ⟨s, k, path_mono h p, f⟩
theorem least_mono {rows : Rl} {ws ws' : List Word} {y : Way} {f : Flt} {n m : Nat} (h : ∀ w ∈ ws, w ∈ ws') (x : LeastF rows ws y f n) (z : LeastF rows ws' y f m) : m ≤ n := by
  obtain ⟨⟨s, k, p, hl, hf⟩, _⟩ := x
  have := z.2 s k (path_mono h p) hf
  omega
theorem WDone.none_F {rows : Rl} {ws : List Word} {es : List Ent} {F : St → Prop} (W : WDone [rows] ws es) (hF : Keeps F) (h : ∀ i x, i < es.length → es[i]? = some x → ∀ s, x.1 = [s] → ¬ F s) : ¬ Somew rows ws F := fun ⟨s, k, p, hs⟩ =>
  W.no hF (fun i x hx => h i x (List.getElem?_eq_some_iff.mp hx).1 hx) s k p hs
theorem WDone.some_F {rows : Rl} {ws : List Word} {es : List Ent} {F : St → Prop} (W : WDone [rows] ws es) {i : Nat} {x : Ent} {s : St} (hx : es[i]? = some x) (h1 : x.1 = [s]) (hs : F s) : Somew rows ws F := by
  refine ⟨s, x.2, ?_, hs⟩
  rw [← h1]
  exact W.path x (List.mem_of_getElem? hx)
theorem least_of {rows : Rl} {ws : List Word} {es : List Ent} {y : Way} {f : Flt} (W : WDone [rows] ws es) {i : Nat} {x : Ent} {s : St} (hx : es[i]? = some x) (h1 : x.1 = [s]) (hs : Fa rows y f s)
    (h : ∀ (j : Nat) (z : Ent), j < i → es[j]? = some z → ∀ t, z.1 = [t] → ¬ Fa rows y f t) : LeastF rows ws y f x.2.2.length := by
  refine ⟨⟨s, x.2, ?_, rfl, hs⟩, W.least (fa_keeps rows y f) hx h⟩
  rw [← h1]
  exact W.path x (List.mem_of_getElem? hx)
def Ag (rows : Rl) (s : St) : Prop := ∃ a, ((s.carried rows a).carried rows a).here ≠ (s.carried rows a).here
theorem ag_keeps (rows : Rl) : Keeps (Ag rows) := fun R B s t h ⟨a, ha⟩ => ⟨a, fun z => ha ((VR.eqp B (((h.carried B a rows).carried B a rows).here) (h.carried B a rows).here).mpr z)⟩
def Sw (rows : Rl) (s : St) : Prop := (s.carried rows true).here ≠ (s.carried rows false).here
theorem sw_keeps (rows : Rl) : Keeps (Sw rows) := fun R B s t h ha => fun z => ha ((VR.eqp B (h.carried B true rows).here (h.carried B false rows).here).mpr z)
def Ro (rows : Rl) (i : Int) (s : St) : Prop := ∃ a, rowIx s a rows 0 = i
theorem ro_keeps (rows : Rl) (i : Int) : Keeps (Ro rows i) := fun R B s t h ⟨a, ha⟩ => ⟨a, by rw [← h.rowIx B a rows 0]; exact ha⟩
/-- two rules part -/
def Parts (r q : Rl) (ws : List Word) : Prop := ∃ S h, Path [r, q] ws S h ∧ ∃ s t, S = [s, t] ∧ s.here ≠ t.here
theorem Parts.mono {r q : Rl} {ws ws' : List Word} (h : ∀ w ∈ ws, w ∈ ws') (x : Parts r q ws) : Parts r q ws' := by
  obtain ⟨S, k, p, y⟩ := x
  exact ⟨S, k, path_mono h p, y⟩
theorem ent_two {r q : Rl} {ws : List Word} {es : List Ent} (W : WDone [r, q] ws es) {x : Ent} (hx : x ∈ es) : ∃ s t, x.1 = [s, t] := by
  have pl := path_len (W.path x hx)
  obtain ⟨S, k⟩ := x
  match S, pl with
  | [s, t], _ => exact ⟨s, t, rfl⟩
theorem parts_no {r q : Rl} {ws : List Word} {es : List Ent} (W : WDone [r, q] ws es) (h : ∀ (i : Nat) (x : Ent), i < es.length → es[i]? = some x → ∀ s t, x.1 = [s, t] → s.here = t.here) : ¬ Parts r q ws := by
  rintro ⟨S, k, p, s, t, rfl, hne⟩
  obtain ⟨y, h1, h2, h3⟩ := W.all _ _ p
  have pl := path_len (W.path y h1)
  obtain ⟨R, B, hr⟩ := rel_of_key (S := [s, t]) (T := y.1) pl.symm h2.symm
  obtain ⟨i, hi, e⟩ := List.getElem_of_mem h1
  obtain ⟨S', k'⟩ := y
  cases hr with | cons r1 t1 => cases t1 with | cons r2 t2 =>
  cases t2
  exact hne ((VR.eqp B r1.here r2.here).mpr (h i _ hi (by rw [List.getElem?_eq_getElem hi, e]) _ _ rfl))
theorem parts_yes {r q : Rl} {ws : List Word} {es : List Ent} (W : WDone [r, q] ws es) {i : Nat} {x : Ent} (hx : es[i]? = some x) {s t : St} (h : x.1 = [s, t]) (hne : s.here ≠ t.here) : Parts r q ws :=
  ⟨x.1, x.2, W.path x (List.mem_of_getElem? hx), s, t, h, hne⟩
end Ci

set_option Elab.async false
set_option linter.all false
set_option maxRecDepth 100000
set_option maxHeartbeats 4000000
/-! fault_behind, faults_by, least_fault, faults. -/
namespace Ci
open PySem PySem.Spec PyProof.Rows L2 Evl
open C8 (Cal Met Mak pe_c pe_mk pe_mt pe_mt0 pe_gc)
theorem wf_eqv (x y : Way × Flt) : PyData.eqv (strsD (wfS x)) (strsD (wfS y)) = decide (x = y) := by
  obtain ⟨a, b⟩ := x
  obtain ⟨c, d⟩ := y
  cases a <;> cases b <;> cases c <;> cases d <;> decide +kernel
theorem wf_any (x : Way × Flt) (l : List (Way × Flt)) : ((l.map fun z => strsD (wfS z)).any fun z => PyData.eqv z (strsD (wfS x))) = decide (x ∈ l) := by
  induction l with
  | nil => rfl
  | cons y l ih =>
    rw [List.map_cons, List.any_cons, ih, wf_eqv]
    by_cases h : y = x
    · subst h
      rw [decide_eq_true rfl, decide_eq_true (p := y ∈ y :: l) List.mem_cons_self]
      rfl
    · rw [decide_eq_false h, Bool.false_or]
      by_cases h2 : x ∈ l
      · rw [decide_eq_true h2, decide_eq_true (List.mem_cons_of_mem _ h2)]
      · rw [decide_eq_false h2, decide_eq_false fun z => (List.mem_cons.mp z).elim (fun q => h q.symm) h2]
theorem wf_shape (x : Way × Flt) : SeqAt.shaped (strsD (wfS x)) = true := by
  obtain ⟨a, b⟩ := x
  cases a <;> cases b <;> decide +kernel
theorem sh_faults (s t : St) : SeqAt.shaped (.list ((s.faults t).map fun x => strsD (wfS x))) = true := by
  have e : s.faults t = (if !decide (t.here = s.due .changed) then [(Way.changed, s.word .changed)] else []) ++ (if !decide (t.here = s.due .every) then [(Way.every, s.word .every)] else []) := by
    unfold St.faults
    rw [List.filter_cons, List.filter_cons, List.filter_nil]
    cases decide (t.here = s.due .changed) <;> cases decide (t.here = s.due .every) <;> rfl
  rw [e]
  cases decide (t.here = s.due .changed) <;> cases decide (t.here = s.due .every) <;> cases s.word .changed <;> cases s.word .every <;> decide +kernel
section
variable {K : PySem.W.Frag} {σ : L2.St} {H : Hp} {ta tb tc : TE} {E : XK}
theorem dps_of {α : Type} {f : α → PyData} : ∀ {ys : List V} {bs : List α}, Paired (fun y b => isD K (f b) y H) ys bs → DpAll K H ys (bs.map f)
  | _, _, .nil => .nil
  | _, _, .cons r t => .cons r (dps_of t)
theorem et_inF {x : Way × Flt} {s t : St} (ha : EvP ta σ H (isD K (strsD (wfS x)))) (hb : EvP tb σ H (LsP (fun z => isD K (strsD (wfS z))) (s.faults t))) : EvT (tTest (tOp (rInD K) ta tb)) σ H (decide (x ∈ s.faults t)) := fun H1 e1 Q q =>
  ha H1 e1 _ fun v H2 e2 hv => hb H2 (e1.trans e2) _ fun u H3 e3 ⟨p, ys, eu, hp, hq⟩ => by
    subst eu
    refine ⟨_, _, dpT (tOf e3) _ _ (noL_strs _) hv, .lst (SqL.of hp) (dps_of hq), wf_shape x, sh_faults s t, _, rfl, ?_⟩
    rw [wf_any]
    exact q H3 (e2.trans e3)
theorem ep_faults {p : Addr} {s t : St} (S : StAt K H p s) (ha : Ev ta σ H (.ref p)) (hb : EvP tb σ H (isSt K t)) : EvP (tMeth (aState K) "faults_of" (spFaultsOf K) [] E ta (tCons tb tNil)) σ H (LsP (fun x => isD K (strsD (wfS x))) (s.faults t)) := by
  obtain ⟨dx, w, h1, h2⟩ := id S.ex
  refine ep_methA ha h1 rfl (eas_cons hb (stb_isSt K t).s eas_nil) fun vs H1 e1 ⟨v, r, hv, ⟨q, hq, Sq⟩, hr⟩ => ?_
  subst hv hr hq
  exact fun H2 e2 Q k E => ⟨p, s, q, t, rfl, S.x (e1.trans e2), Sq.x e2, k⟩
end
/-- the faults there are -/
def fsP (rows : Rl) (ws : List Word) (y : Way) : Pr := fun v H => ∃ g : Flt → Bool, LsP (fun f => isV (.str (fltS f))) ([Flt.lost, Flt.missed].filter g) v H ∧ ∀ f, g f = true ↔ Faulty rows ws y f
def fbP (K : PySem.W.Frag) (rows : Rl) (ws : List Word) (y : Way) (f : Flt) : Pr := fun v H => (v = .non ∧ ¬ Faulty rows ws y f) ∨ ∃ h n, Dp K H v (histD h) ∧ h.2.length = n + 1 ∧ LeastF rows ws y f n
section
variable {P : Program} {w : World} {K : PySem.W.Frag} {mg : Str → Option Value} {base : Heap}
theorem ansAt (T : Txt K mg) : ∃ an, (∃ u, mg "ANSWERS" = some u ∧ RelV (.ref an) u) ∧ ∀ H, SqT K H an ([true, false].map fun b => V.str (ansS b)) := by
  obtain ⟨an, g, dA⟩ := T.c_ANSWERS
  refine ⟨an, g, fun H => ?_⟩
  obtain ⟨b, e, h⟩ := dp_strs (ss := ["yes", "no"]) (dA H)
  cases e
  exact h
theorem it_ans {σ : L2.St} {H : Hp} {an : Addr} (h : ∀ H, SqT K H an ([true, false].map fun b => V.str (ansS b))) : ItP (iTup K (tC (.ref an))) σ H [true, false] (fun b x _ => x = .str (ansS b)) := it_tup ev_c (h H) (.cons (fun _ _ => rfl) (.cons (fun _ _ => rfl) .nil))
def spFaultBehind (K : PySem.W.Frag) : Sp := fun vs H Q _ => ∃ r y f wv notes rows ws, vs = [.ref r, .str (wayS y), .str (fltS f), wv] ∧ RlAt K H r notes rows ∧ ws.Nodup ∧ Dp K H wv (wsD ws) ∧ RetP (fbP K rows ws y f) H Q
theorem ep_walked {σ : L2.St} {H : Hp} {ta tb : TE} {E : XK} {r : Addr} {wv : V} {notes : List Str} {rows : Rl} {ws : List Word} (Rr : RlAt K H r notes rows) (nd : ws.Nodup) (dW : Dp K H wv (wsD ws)) (ha : Ev ta σ H (.ref r)) (hb : Ev tb σ H wv) : EvP (tCall (spWalked K) [] E (tCons ta (tCons tb tNil))) σ H (walkedP K rows ws) :=
  ep_call (ea_cons ha (ea_cons hb ea_nil)) fun H1 e Q k E => ⟨r, wv, notes, rows, ws, rfl, Rr.x e, nd, dpT (tOf e) _ _ (noL_ws ws) dW, k⟩
theorem answers_end {i : Nat} {p : Bool → Prop} (h : ∀ j b, j < i → ([true, false] : List Bool)[j]? = some b → ¬ p b) (hi : i = 2) : ¬ ∃ b, p b := fun ⟨b, hb⟩ => by
  subst hi
  cases b
  · exact h 1 false (by decide) rfl hb
  · exact h 0 true (by decide) rfl hb
theorem cal_fault_behind (T : Txt K mg) : Cal P w K mg base 9 "fault_behind" (spFaultBehind K) [] := by
  obtain ⟨fd, F⟩ := T.f_fault_behind
  refine calD F T.g_fault_behind (F.bindsN fun _ _ _ _ _ _ us hl => match us, hl with | [_, _, _, _], _ => rfl) sc_fault_behind (fun vs H Q E h => ?_) (fun cdv A outer s H vs Q E hr h => ?_)
  · obtain ⟨r, y, f, wv, notes, rows, ws, rfl, _⟩ := h
    rfl
  · obtain ⟨r, y, f, wv, notes, rows, ws, rfl, Rr, nd, dW, k⟩ := h
    obtain ⟨an, g_ANSWERS, hA⟩ := ansAt T
    refine ⟨_, (pss_cons (ps_for PassesOwn.never rfl (pi_list (pe_c (cal_walked T) hr (by decide) rfl (pa_cons (pv 0) (pa_cons (pv 3) pa_nil)))) (kTup K (n := 2) (pgs_cons (pg_name (i := 4) sc_fault_behind.nd rfl (Or.inl rfl)) (pgs_cons (pg_name (i := 5) sc_fault_behind.nd rfl (Or.inl rfl)) pgs_nil)))
        (pss_one (ps_for PassesOwn.never rfl (pi_tup (pe_gc rfl g_ANSWERS)) (pg_name (i := 6) sc_fault_behind.nd rfl (Or.inl rfl))
          (pss_one (ps_if (ptc (kInD K hr) (pe_tup (pa_cons (pv 1) (pa_cons (pv 2) pa_nil))) (pe_mt (met_State_faults_of T) hr (by decide) (pv 4) (pa_cons (pe_mt (met_State_carried T) hr (by decide) (pv 4) (pa_cons (pv 0) (pa_cons (pv 6) pa_nil))) pa_nil)))
            (pss_one (ps_ret (pe_c (cal_with_event T) hr (by decide) rfl (pa_cons (pv 5) (pa_cons (pe_tup (pa_cons pe_str (pa_cons (pv 6) pa_nil))) pa_nil)))))
            pss_nil)))))
      (pss_one (ps_ret pe_non))), ?_⟩
    refine (s_forX (ep_walked Rr nd dW (ev_var rfl) (ev_var rfl)) fun v H1 e1 ⟨es, W, hes⟩ => ?_)
    refine s_forI (it_ls (stb_entP K) hes) (fun H2 i σ' H' => Ex H2 H' ∧ (∀ j x, j < i → es[j]? = some x → ∀ t, x.1 = [t] → ¬ Fa rows y f t) ∧ ∃ u4 u5 u6, σ' = [some (.ref r), some (.str (wayS y)), some (.str (fltS f)), some wv, u4, u5, u6]) (fun H2 e2 => ⟨Ex.refl _, fun j x h => absurd h (Nat.not_lt_zero j), none, none, none, rfl⟩) (fun H2 i σ' H' h => h.1) ?_ ?_
    · rintro H2 i x xv σ' Ha Hb e2 hx ⟨ea, hno, u4, u5, u6, rfl⟩ eab ⟨t, q, hv, st, rfl, ht, hxs, Sq, hD⟩
      refine ⟨t, _, rfl, ht, rfl, .ref q, _, rfl, hv, _, rfl, rfl, ?_⟩
      have eHb := (e1.trans e2).trans (ea.trans eab)
      refine s_forI (it_ans hA) (fun H3 i3 σ' H' => Ex H3 H' ∧ (∀ (j : Nat) (b : Bool), j < i3 → ([true, false] : List Bool)[j]? = some b → ¬ (y, f) ∈ st.faults (st.carried rows b)) ∧ ∃ u6, σ' = [some (.ref r), some (.str (wayS y)), some (.str (fltS f)), some wv, some (.ref q), some hv, u6]) (fun H3 e3 => ⟨Ex.refl _, fun j b h => absurd h (Nat.not_lt_zero j), u6, rfl⟩) (fun H3 i σ' H' h => h.1) ?_ ?_
      · rintro H3 i3 b xb σ' Hc Hd e3 hb ⟨ec, hno3, u6, rfl⟩ ecd rfl
        have ebd := e3.trans (ec.trans ecd)
        have Sd := Sq.x ebd
        have Rd := (Rr.x eHb).x ebd
        refine s_when (et_inF (x := (y, f)) (ep_imp (ep_tup (K := K) (vs := [.str (wayS y), .str (fltS f)]) (ea_cons (ev_var rfl) (ea_cons (ev_var rfl) ea_nil)) (by show 2 ≤ 100000; decide)) fun v H5 _ ⟨a, ea, ha⟩ => ?_) (ep_faults Sd (ev_var rfl) (ep_carried (a := b) Sd Rd (ev_var rfl) (ev_var rfl) (ev_var rfl)))) (fun hin H5 e5 => ?_) (fun hin H5 e5 => ?_)
        · subst ea
          exact .tup ha (.cons (.str _) (.cons (.str _) .nil))
        · have hf : (y, f) ∈ st.faults (st.carried rows b) := of_decide_eq_true hin
          have hL := least_of W hx hxs ⟨b, hf⟩ hno
          have hlen := W.lens x (List.mem_of_getElem? hx)
          have hes := W.few1 (Nat.le_refl _)
          have hD5 := dpT (tOf (ebd.trans e5)) _ _ (noL_hist _) hD
          refine sp_ret (D := _) (R := isD K (histD (x.2.1, x.2.2 ++ [.carry b]))) (ep_imp (ep_callA (sp := spWithEvent K) (R := isD K (histD (x.2.1, x.2.2 ++ [.carry b]))) (eas_v (ev_var rfl) (eas_cons (R := isD K (evD (.carry b))) (ep_imp (ep_tup (K := K) (vs := [.str "carry", .str (ansS b)]) (ea_cons ev_c (ea_cons (ev_var rfl) ea_nil)) (by show 2 ≤ 100000; decide)) fun v H6 _ ⟨a, ea, ha⟩ => ?_) (stb_isD K (noL_ev _)).s eas_nil)) fun vs H6 e6 ⟨r1, h1, v2, r2, h2, h3, h4⟩ => ?_) fun v H6 _ h => h) fun v H6 e6 h6 => ?_
          · subst ea
            exact .tup ha (.cons (.str _) (.cons (.str _) .nil))
          · subst h1 h2 h4
            exact fun H7 e7 Q k E => ⟨hv, v2, x.2, .carry b, rfl, dpT (tOf (e6.trans e7)) _ _ (noL_hist _) hD5, stb_isD K (noL_ev _) _ _ _ (tOf e7) h3, by omega, k⟩
          · exact k v H6 (((eHb.trans ebd).trans e5).trans e6) (.inr ⟨_, x.2.2.length, h6, by simp, hL⟩)
        · refine ⟨(ec.trans ecd).trans e5, fun j c hj hc => ?_, _, rfl⟩
          by_cases hji : j < i3
          · exact hno3 j c hji hc
          · obtain rfl : j = i3 := by omega
            rw [hb] at hc
            cases hc
            exact of_decide_eq_false hin
      · rintro H3 σ' H' e3 ⟨ec, hno3, u6, rfl⟩
        refine ⟨(ea.trans eab).trans (e3.trans ec), fun j z hj hz s' hs' => ?_, _, _, _, rfl⟩
        by_cases hji : j < i
        · exact hno j z hji hz s' hs'
        · obtain rfl : j = i := by omega
          rw [hx] at hz
          cases hz
          rw [hxs] at hs'
          cases hs'
          exact answers_end hno3 rfl
    · rintro H2 σ' H' e2 ⟨ea, hno, u4, u5, u6, rfl⟩
      show tRet (tC .non) { nx := fun _ H' => Q .non H', rt := Q } [some (.ref r), some (.str (wayS y)), some (.str (fltS f)), some wv, u4, u5, u6] H'
      refine s_ret ev_c fun H3 e3 => ?_
      exact k _ _ (((e1.trans e2).trans ea).trans e3) (.inl ⟨rfl, W.none_F (fa_keeps rows y f) fun i x hi hx => hno i x hi hx⟩)
def spFaultsBy (K : PySem.W.Frag) : Sp := fun vs H Q _ => ∃ r y wv notes rows ws, vs = [.ref r, .str (wayS y), wv] ∧ RlAt K H r notes rows ∧ ws.Nodup ∧ Dp K H wv (wsD ws) ∧ RetP (fsP rows ws y) H Q
theorem ep_behind {σ : L2.St} {H : Hp} {ta tb tc td : TE} {E : XK} {r : Addr} {wv : V} {y : Way} {f : Flt} {notes : List Str} {rows : Rl} {ws : List Word} (Rr : RlAt K H r notes rows) (nd : ws.Nodup) (dW : Dp K H wv (wsD ws)) (ha : Ev ta σ H (.ref r)) (hb : Ev tb σ H (.str (wayS y))) (hc : Ev tc σ H (.str (fltS f))) (hd : Ev td σ H wv) : EvP (tCall (spFaultBehind K) [] E (tCons ta (tCons tb (tCons tc (tCons td tNil))))) σ H (fbP K rows ws y f) :=
  ep_call (ea_cons ha (ea_cons hb (ea_cons hc (ea_cons hd ea_nil)))) fun H1 e Q k E => ⟨r, y, f, wv, notes, rows, ws, rfl, Rr.x e, nd, dpT (tOf e) _ _ (noL_ws ws) dW, k⟩
theorem et_notN {σ : L2.St} {H : Hp} {ta : TE} {R : Pr} {b : Bool} (ha : EvP ta σ H R) (hR : ∀ v H1, R v H1 → (!decide (v = .non)) = b) : EvT (tTest (tOp (fun x y H Q => y = .non ∧ Q (.bl (!decide (x = .non))) H) ta (tC .non))) σ H b := fun H1 e1 Q q =>
  ha H1 e1 _ fun v H2 e2 r => ⟨rfl, _, rfl, by rw [hR v H2 r]; exact q H2 e2⟩
theorem fb_test {rows : Rl} {ws : List Word} {y : Way} {f : Flt} {b : Bool} (hb : b = true ↔ Faulty rows ws y f) {v : V} {H : Hp} (h : fbP K rows ws y f v H) : (!decide (v = .non)) = b := by
  rcases h with ⟨rfl, h⟩ | ⟨h, n, hd, _, ⟨s, k, h1, _, h2⟩, _⟩
  · cases b with
    | true => exact absurd (hb.mp rfl) h
    | false => rfl
  · rw [hb.mpr ⟨s, k, h1, h2⟩]
    obtain ⟨a, xs, rfl, _⟩ := dp_tup hd
    rfl
theorem cal_faults_by (T : Txt K mg) : Cal P w K mg base 10 "faults_by" (spFaultsBy K) [] := by
  obtain ⟨fd, F⟩ := T.f_faults_by
  refine calD F T.g_faults_by (F.bindsN fun _ _ _ _ _ _ us hl => match us, hl with | [_, _, _], _ => rfl) sc_faults_by (fun vs H Q E h => ?_) (fun cdv A outer s H vs Q E hr h => ?_)
  · obtain ⟨r, y, wv, notes, rows, ws, rfl, _⟩ := h
    rfl
  · obtain ⟨r, y, wv, notes, rows, ws, rfl, Rr, nd, dW, k⟩ := h
    obtain ⟨wa, g_WORDS, dWo⟩ := T.c_WORDS
    have hW : ∀ H, SqT K H wa [.str "lost", .str "missed"] := fun H => by
      obtain ⟨b, e, h⟩ := dp_strs (ss := ["lost", "missed"]) (dWo H)
      cases e
      exact h
    refine ⟨_, (pss_one (ps_ret (pe_lcT (own := [("word", 3)]) (by rfl) sc_faults_by.nd (pi_tup (pe_gc rfl g_WORDS)) (blkOk_by (own := [("word", 3)]) (N := n_faults_by) (sc := defScope s_faults_by) (by decide +kernel)) (fun _ _ _ _ _ => (pg_name (i := 3) sc_faults_by.nd rfl (Or.inl rfl))) (fun _ _ _ _ _ => (ptc op_notN (pe_c (cal_fault_behind T) hr (by decide) rfl (pa_cons (pv 0) (pa_cons (pv 1) (pa_cons (pv 3) (pa_cons (pv 2) pa_nil))))) pe_non)) (fun _ _ _ _ _ => (pv 3))))), ?_⟩
    have dec : ∀ f, ∃ b : Bool, b = true ↔ Faulty rows ws y f := fun f => by
      by_cases h : Faulty rows ws y f
      · exact ⟨true, ⟨fun _ => h, fun _ => rfl⟩⟩
      · exact ⟨false, ⟨fun z => (by cases z), fun z => absurd z h⟩⟩
    obtain ⟨b1, hb1⟩ := dec .lost
    obtain ⟨b2, hb2⟩ := dec .missed
    refine sp_ret (ep_comp (R := fun f => isV (.str (fltS f))) [Flt.lost, Flt.missed] (fun f => match f with | .lost => b1 | .missed => b2) (fun f => f) (fun f v _ => v = .str (fltS f)) (fun f σ2 _ => σ2 = [some (.ref r), some (.str (wayS y)), some wv, some (.str (fltS f))]) (it_tup ev_c (hW H) (.cons (fun _ _ => rfl) (.cons (fun _ _ => rfl) .nil))) ?_ ?_ ?_ ?_ (by decide)) fun v H1 e1 h => k v H1 e1 ?_
    · rintro f x H1 _ _ rfl Kt kt
      exact kt _ rfl rfl
    · rintro f σ2 H1 _ e rfl
      refine et_notN (ep_behind (f := f) (Rr.x e) nd (dpT (tOf e) _ _ (noL_ws ws) dW) (ev_var rfl) (ev_var rfl) (ev_var rfl) (ev_var rfl)) fun v H2 hv => fb_test ?_ hv
      cases f
      · exact hb1
      · exact hb2
    · rintro f σ2 H1 _ e rfl _
      exact ep_v (ev_var rfl)
    · exact fun b _ _ _ _ h => h
    · rw [List.map_id'] at h
      refine ⟨_, h, ?_⟩
      intro f
      cases f
      · exact hb1
      · exact hb2
end
end Ci

set_option Elab.async false
set_option linter.all false
set_option maxRecDepth 100000
set_option maxHeartbeats 4000000
/-! Rule: what is a rule, __init__, without. -/
namespace Ci
open PySem PySem.Spec PyProof.Rows L2 Evl
open C8 (Cal Met Mak pe_c pe_mk pe_mt pe_mt0 pe_gc)

/-! ### general forms -/
section
variable {K : PySem.W.Frag} {σ : L2.St} {H : Hp} {ta tb te : TE} {a : Addr} {xs : List V} {lo hi : Option Int} {tl th : TO}
theorem cut_whole {xs : List V} {lo hi : Option Int} (h : HT.sIx xs.length 0 lo = 0 ∧ HT.sIx xs.length xs.length hi = xs.length) : cutV xs lo hi = xs := by
  unfold cutV
  rw [h.1, h.2, List.drop_zero]
  exact List.take_of_length_le (by omega)
theorem ep_slA (h : Ev te σ H (.ref a)) (h1 : EvO tl σ H lo) (h2 : EvO th σ H hi) (hx : SqT K H a xs) : EvP (tSl (rSlA K) te tl th) σ H (TpV K (cutV xs lo hi)) := fun H1 e1 Q q =>
  h H1 e1 _ fun H2 e2 => h1 H2 (e1.trans e2) _ fun H3 e3 => h2 H3 ((e1.trans e2).trans e3) _ fun H4 e4 => by
    have e14 := (e2.trans e3).trans e4
    refine ⟨a, xs, rfl, ex_t (e1.trans e14) hx, fun hw => ?_, fun _ p hp => q _ _ (e14.trans (Ex.new hp)) ⟨p, rfl, SqT.of upd_same⟩⟩
    exact q _ H4 e14 ⟨a, rfl, by rw [cut_whole hw]; exact ex_t (e1.trans e14) hx⟩
theorem cut1 (x : V) (r : List V) : cutV (x :: r) (some 1) none = r := by
  have h1 : HT.sIx (x :: r).length 0 (some 1) = 1 := by
    have := HT.sIx_nat (x :: r).length 0 1
    have e : HT.sIx (x :: r).length 0 (some 1) = min 1 (x :: r).length := this
    rw [e, List.length_cons]
    omega
  unfold cutV
  rw [h1, HT.sIx_none]
  show r.take ((x :: r).length - 1) = r
  rw [List.length_cons]
  exact List.take_of_length_le (by omega)
theorem sl1 (x : V) (r : List V) (ha : Ev te σ H (.ref a)) (hx : SqT K H a (x :: r)) : EvP (tSl (rSlA K) te (tPart (tC (.int 1))) tNoPart) σ H (TpV K r) := by
  have h := ep_slA (lo := some 1) (hi := none) (tl := tPart (tC (.int 1))) (th := tNoPart) ha (eo_some ev_c) eo_none hx
  rw [cut1] at h
  exact h
theorem ev_inP {x : V} {ys : List V} {neg : Bool} (ha : Ev ta σ H x) (hb : EvP tb σ H (TpV K ys)) (hx : flatV x = true) (hf : ys.all flatV = true) : Ev (tOp (rIn K neg) ta tb) σ H (.bl (if neg then !inV x ys else inV x ys)) := fun H1 e1 Q q =>
  ha H1 e1 _ fun H2 e2 => hb H2 (e1.trans e2) _ fun v H3 e3 ⟨p, ev, hp⟩ => by
    subst ev
    exact ⟨p, ys, rfl, .inr hp, hx, hf, q H3 (e2.trans e3)⟩
theorem ev_lt {i j : Int} (ha : Ev ta σ H (.int i)) (hb : Ev tb σ H (.int j)) {c : Bool} (hc : decide (i < j) = c) : Ev (tOp (rI0 fun i j => .bl (decide (i < j))) ta tb) σ H (.bl c) := by
  subst hc
  exact ev_op ha hb (rv_I0 (g := fun i j => V.bl (decide (i < j))))
theorem ev_gt {i j : Int} (ha : Ev ta σ H (.int i)) (hb : Ev tb σ H (.int j)) {c : Bool} (hc : decide (j < i) = c) : Ev (tOp (rI0 fun i j => .bl (decide (j < i))) ta tb) σ H (.bl c) := by
  subst hc
  exact ev_op ha hb (rv_I0 (g := fun i j => V.bl (decide (j < i))))
theorem ev_nei {i j : Int} (ha : Ev ta σ H (.int i)) (hb : Ev tb σ H (.int j)) {c : Bool} (hc : (!decide (i = j)) = c) : Ev (tOp rNe ta tb) σ H (.bl c) := by
  subst hc
  refine ev_is (ev_op ha hb (rv_ne (show scal (.int i) (.int j) = true from rfl))) (congrArg V.bl ?_)
  rw [dec_int, Bool.beq_eq_decide_eq]
theorem et_chain {tc : TE} {i j k : Int} {f g : Int → Int → Bool} (ha : Ev ta σ H (.int i)) (hb : Ev tb σ H (.int j)) (hc : Ev tc σ H (.int k)) (h1 : f i j = true) (h2 : g j k = true) : EvT (tTest (tChain (rI0 fun i j => .bl (f i j)) (rI0 fun i j => .bl (g i j)) ta tb tc)) σ H true := fun H1 e1 Q q =>
  ha H1 e1 _ fun H2 e2 => hb H2 (e1.trans e2) _ fun H3 e3 => ⟨i, j, rfl, rfl, true, congrArg V.bl h1, by
    rw [if_pos rfl]
    exact hc H3 ((e1.trans e2).trans e3) _ fun H4 e4 => ⟨j, k, rfl, rfl, true, congrArg V.bl h2, q H4 ((e2.trans e3).trans e4)⟩⟩
theorem ev_isInt {i : Int} (ha : Ev ta σ H (.int i)) (hb : Ev tb σ H (.ty "int")) : Ev (tCB (rIsi K) (tCons ta (tCons tb tNil))) σ H (.bl true) := fun H1 e1 Q q =>
  ha H1 e1 _ fun H2 e2 => hb H2 (e1.trans e2) _ fun H3 e3 => ⟨_, _, _, _, true, rfl, .ty "int", .base (.int i), kit_ty (by decide +kernel), q H3 (e2.trans e3)⟩
theorem ev_isBool {i : Int} (ha : Ev ta σ H (.int i)) (hb : Ev tb σ H (.ty "bool")) : Ev (tCB (rIsi K) (tCons ta (tCons tb tNil))) σ H (.bl false) := fun H1 e1 Q q =>
  ha H1 e1 _ fun H2 e2 => hb H2 (e1.trans e2) _ fun H3 e3 => ⟨_, _, _, _, false, rfl, .ty "bool", .base (.int i), kit_ty (by decide +kernel), q H3 (e2.trans e3)⟩
end
section
variable {P : Program} {w : World} {K : PySem.W.Frag} {mg : Str → Option Value} {base : Heap}
def spIsInteger : Sp := fun vs H Q _ => ∃ i : Int, vs = [.int i] ∧ RetV (.bl true) H Q
theorem cal_is_integer (T : Txt K mg) : Cal P w K mg base 1 "is_integer" spIsInteger [] := by
  obtain ⟨fd, F⟩ := T.f_is_integer
  refine calD F T.g_is_integer (F.bindsN fun _ _ _ _ _ _ us hl => match us, hl with | [_], _ => rfl) sc_is_integer (fun vs H Q E h => ?_) (fun cdv A outer s H vs Q E hr h => ?_)
  · obtain ⟨i, rfl, _⟩ := h
    rfl
  · obtain ⟨i, rfl, k⟩ := h
    refine ⟨_, (pss_one (ps_ret (pe_and (pe_callB (kIsi K) (by rfl) T.z_isinstance (by decide +kernel) (pa_cons (pv 0) (pa_cons (kTy "int" rfl T.z_int (by decide +kernel)) pa_nil))) (pe_one (pe_not (pe_callB (kIsi K) (by rfl) T.z_isinstance (by decide +kernel) (pa_cons (pv 0) (pa_cons (kTy "bool" rfl T.z_bool (by decide +kernel)) pa_nil)))))))), ?_⟩
    exact s_ret (ev_is (ev_andV (ev_isInt (ev_var rfl) ev_c) fun _ => ev_notV (ev_isBool (ev_var rfl) ev_c)) rfl) fun H1 e1 => k H1 e1
def spIsWord (K : PySem.W.Frag) : Sp := fun vs H Q _ => ∃ (z : Str) (a : Addr) (ss : List Str), vs = [.str z, .ref a] ∧ SqT K H a (ss.map V.str) ∧ RetV (.bl (inV (.str z) (ss.map V.str))) H Q
theorem cal_is_word (T : Txt K mg) : Cal P w K mg base 1 "is_word" (spIsWord K) [] := by
  obtain ⟨fd, F⟩ := T.f_is_word
  refine calD F T.g_is_word (F.bindsN fun _ _ _ _ _ _ us hl => match us, hl with | [_, _], _ => rfl) sc_is_word (fun vs H Q E h => ?_) (fun cdv A outer s H vs Q E hr h => ?_)
  · obtain ⟨z, a, ss, rfl, _⟩ := h
    rfl
  · obtain ⟨z, a, ss, rfl, hx, k⟩ := h
    refine ⟨_, (pss_one (ps_ret (pe_and (pe_callB (kIsi K) (by rfl) T.z_isinstance (by decide +kernel) (pa_cons (pv 0) (pa_cons (kTy "str" rfl T.z_str (by decide +kernel)) pa_nil))) (pe_one (pec (kIn K) (pv 0) (pv 1)))))), ?_⟩
    exact s_ret (ev_is (ev_andV (ev_isStr (ev_var rfl) ev_c) fun _ => ev_op (ev_var rfl) (ev_var rfl) (rv_isT hx rfl (flat_strs ss))) rfl) fun H1 e1 => k H1 e1
def spAreNotes (K : PySem.W.Frag) : Sp := fun vs H Q _ => ∃ v n, vs = [v] ∧ Dp K H v (strsD (ntsS n)) ∧ RetV (.bl true) H Q
theorem cal_are_notes (T : Txt K mg) : Cal P w K mg base 1 "are_notes" (spAreNotes K) [] := by
  obtain ⟨fd, F⟩ := T.f_are_notes
  refine calD F T.g_are_notes (F.bindsN fun _ _ _ _ _ _ us hl => match us, hl with | [_], _ => rfl) sc_are_notes (fun vs H Q E h => ?_) (fun cdv A outer s H vs Q E hr h => ?_)
  · obtain ⟨v, n, rfl, _⟩ := h
    rfl
  · obtain ⟨v, n, rfl, hD, k⟩ := h
    obtain ⟨al, g_ALL_NOTES, dN⟩ := T.c_ALL_NOTES
    obtain ⟨x, rfl, hx⟩ := dp_strs hD
    refine ⟨_, (pss_one (ps_ret (pe_and (pe_callB (kIsi K) (by rfl) T.z_isinstance (by decide +kernel) (pa_cons (pv 0) (pa_cons (kTy "tuple" rfl T.z_tuple (by decide +kernel)) pa_nil))) (pe_and (pe_callB (kAll K) (by rfl) T.z_all (by decide +kernel) (pa_cons (pe_lc (own := [("note", 1)]) (by rfl) sc_are_notes.nd (pi_tup (pv 0)) (blkOk_by (own := [("note", 1)]) (N := n_are_notes) (sc := defScope s_are_notes) (by decide +kernel)) (fun _ _ _ _ _ => (pg_name (i := 1) sc_are_notes.nd rfl (Or.inl rfl))) (fun _ _ _ _ _ => pts_nil) (fun _ _ _ _ _ => (pe_callB (kIsi K) (by rfl) T.z_isinstance (by decide +kernel) (pa_cons (pv 1) (pa_cons (kTy "str" rfl T.z_str (by decide +kernel)) pa_nil))))) pa_nil)) (pe_one (pec (kInT K hr) (pv 0) (pe_gc rfl g_ALL_NOTES))))))), ?_⟩
    have few : (ntsS n).length ≤ 2 := by
      obtain ⟨b, m⟩ := n
      cases b <;> cases m <;> decide
    refine s_ret (ev_is (ev_andV (b := true) (ev_isTup (ev_var rfl) ev_c hx) fun _ => ev_is (ev_andV (a := true) (b := true) (ev_is (ev_allP (bs := ((ntsS n).filter fun _ => true).map fun _ => true) (ep_comp (R := fun b => isV (.bl b)) (ntsS n) (fun _ => true) (fun _ => true) (fun s v _ => v = .str s) (fun s σ2 _ => σ2[1]? = some (some (.str s))) (it_tup (ev_var rfl) hx ?_) ?_ ?_ ?_ ?_ ?_)) (congrArg V.bl ?_)) fun _ => ev_op (ev_var rfl) ev_c fun H1 e1 Q q => ⟨strsD (ntsS n), _, dpT (tOf e1) _ _ (noL_strs _) hD, dN H1, ?_, ?_, ?_⟩) rfl) rfl) fun H1 e1 => k H1 e1
    · have go : ∀ (l : List Str), Paired (fun v y => ∀ H2, Ex H H2 → v = V.str y) (l.map V.str) l := fun l => by
        induction l with
        | nil => exact .nil
        | cons y l ih => exact .cons (fun _ _ => rfl) ih
      exact go _
    · rintro s v H1 _ _ rfl Kt kt
      exact kt _ rfl rfl
    · exact fun _ _ _ _ _ _ => ev_tYes
    · rintro s σ2 H1 _ _ h1 _
      exact ep_v (ev_isStr (ev_var h1) ev_c)
    · exact fun b _ _ _ _ h => h
    · exact Nat.le_trans few (by decide)
    · rw [all_map]
      exact List.all_eq_true.mpr fun _ _ => rfl
    · obtain ⟨b, m⟩ := n
      cases b <;> cases m <;> decide +kernel
    · decide +kernel
    · have e : (([.tuple [], .tuple [.str "base"], .tuple [.str "mine"], .tuple [.str "base", .str "mine"]] : List PyData).any fun z => PyData.eqv z (strsD (ntsS n))) = true := by
        obtain ⟨b, m⟩ := n
        cases b <;> cases m <;> decide +kernel
      rw [e]
      exact q H1 (Ex.refl _)
end
end Ci

set_option Elab.async false
set_option linter.all false
set_option maxRecDepth 100000
set_option maxHeartbeats 4000000
/-! is_test, is_row, Rule.__init__, Rule.without. -/
namespace Ci
open PySem PySem.Spec PyProof.Rows L2 Evl
open C8 (Cal Met Mak pe_c pe_mk pe_mt pe_mt0 pe_gc)
/-- a test: its word, its spots -/
def headS : Test → Str
  | .same _ _ => "same"
  | .unlike _ _ => "unlike"
  | .there _ => "there"
  | .gone _ => "gone"
  | .mine => "mine"
  | .free => "free"
  | .yes => "yes"
  | .no => "no"
def spotsT : Test → List Sp3
  | .same p q => [p, q]
  | .unlike p q => [p, q]
  | .there p => [p]
  | .gone p => [p]
  | _ => []
theorem testS_eq (t : Test) : testS t = headS t :: (spotsT t).map sp3S := by cases t <;> rfl
theorem spots_few (t : Test) : (spotsT t).length ≤ 2 := by cases t <;> simp [spotsT]
theorem spots_ok {n : Nts} {t : Test} (h : t.okIn n = true) : ∀ p ∈ spotsT t, p.okIn n = true := by
  cases t with
  | same p q =>
    obtain ⟨h1, h2⟩ := He.ba h
    intro x hx
    rcases List.mem_cons.mp hx with rfl | hx
    · exact h1
    · rw [List.mem_singleton.mp hx]
      exact h2
  | unlike p q =>
    obtain ⟨h1, h2⟩ := He.ba h
    intro x hx
    rcases List.mem_cons.mp hx with rfl | hx
    · exact h1
    · rw [List.mem_singleton.mp hx]
      exact h2
  | there p =>
    intro x hx
    rw [List.mem_singleton.mp hx]
    exact h
  | gone p =>
    intro x hx
    rw [List.mem_singleton.mp hx]
    exact h
  | mine => intro x hx; cases hx
  | free => intro x hx; cases hx
  | yes => intro x hx; cases hx
  | no => intro x hx; cases hx
theorem base_in (ps : List Sp3) (n : Nts) (h : ∀ p ∈ ps, p.okIn n = true) : (inV (.str "base") ((ps.map sp3S).map V.str) && !inV (.str "base") ((ntsS n).map V.str)) = false := by
  have h1 : inV (.str "base") ((ps.map sp3S).map V.str) = true → n.base = true := by
    intro hb
    induction ps with
    | nil => exact absurd hb (by decide +kernel)
    | cons p ps ih =>
      cases p with
      | base => exact h .base List.mem_cons_self
      | own => exact ih (fun q hq => h q (List.mem_cons_of_mem _ hq)) (by
          have e : inV (.str "base") ((((.own : Sp3) :: ps).map sp3S).map V.str) = (false || inV (.str "base") ((ps.map sp3S).map V.str)) := rfl
          rw [e] at hb
          exact hb)
      | above => exact ih (fun q hq => h q (List.mem_cons_of_mem _ hq)) (by
          have e : inV (.str "base") ((((.above : Sp3) :: ps).map sp3S).map V.str) = (false || inV (.str "base") ((ps.map sp3S).map V.str)) := rfl
          rw [e] at hb
          exact hb)
  cases hb : inV (.str "base") ((ps.map sp3S).map V.str) with
  | false => rfl
  | true =>
    have h2 := h1 hb
    obtain ⟨b, m⟩ := n
    have h3 : b = true := h2
    subst h3
    cases m <;> decide +kernel
section
variable {P : Program} {w : World} {K : PySem.W.Frag} {mg : Str → Option Value} {base : Heap}
def spIsTest (K : PySem.W.Frag) : Sp := fun vs H Q _ => ∃ nv tv n t, vs = [nv, tv] ∧ Dp K H nv (strsD (ntsS n)) ∧ Dp K H tv (testD t) ∧ t.okIn n = true ∧ RetV (.bl true) H Q
theorem cal_is_test (T : Txt K mg) : Cal P w K mg base 2 "is_test" (spIsTest K) [] := by
  obtain ⟨fd, F⟩ := T.f_is_test
  refine calD F T.g_is_test (F.bindsN fun _ _ _ _ _ _ us hl => match us, hl with | [_, _], _ => rfl) sc_is_test (fun vs H Q E h => ?_) (fun cdv A outer s H vs Q E hr h => ?_)
  · obtain ⟨nv, tv, n, t, rfl, _⟩ := h
    rfl
  · obtain ⟨nv, tv, n, t, rfl, hN, hT, ok, k⟩ := h
    obtain ⟨sp, g_SPOTS, dS⟩ := T.c_SPOTS
    obtain ⟨pr, g_PAIRS, dP⟩ := T.c_PAIRS
    obtain ⟨sg, g_SINGLES, dG⟩ := T.c_SINGLES
    obtain ⟨fl, g_FLAGS, dF⟩ := T.c_FLAGS
    obtain ⟨an, g_ANSWERS, dA⟩ := T.c_ANSWERS
    have cS : ∀ {a : Addr} {ss : List Str}, (∀ H, Dp K H (.ref a) (strsD ss)) → ∀ H, SqT K H a (ss.map V.str) := fun h H => by
      obtain ⟨a, e, h⟩ := dp_strs (h H)
      cases e
      exact h
    have hS := cS (ss := ["own", "above", "base"]) dS
    have hP := cS (ss := ["same", "unlike"]) dP
    have hG := cS (ss := ["there", "gone"]) dG
    have hF := cS (ss := ["mine", "free"]) dF
    have hA := cS (ss := ["yes", "no"]) dA
    obtain ⟨x, rfl, hx⟩ := dp_strs hT
    obtain ⟨y, rfl, hy⟩ := dp_strs hN
    rw [testS_eq] at hx
    refine ⟨_, (pss_cons (ps_if (PW.pt (pw_or (pt_not (pt_val (pe_callB (kIsi K) (by rfl) T.z_isinstance (by decide +kernel) (pa_cons (pv 1) (pa_cons (kTy "tuple" rfl T.z_tuple (by decide +kernel)) pa_nil))))) (pw_or (pt_not (pt_chain op_le op_le pe_int (pe_callB (kLen K) (by rfl) T.z_len PySem.boot_len (pa_cons (pv 1) pa_nil)) pe_int)) (pw_or1 (pt_not (pt_val (pe_callB (kIsi K) (by rfl) T.z_isinstance (by decide +kernel) (pa_cons (pix (kIxT K) (pv 1) pe_int) (pa_cons (kTy "str" rfl T.z_str (by decide +kernel)) pa_nil)))))))))
        (pss_one (ps_ret pe_bl))
        pss_nil)
      (pss_cons (ps_if (PW.pt (pw_or (pt_not (pt_val (pe_callB (kAll K) (by rfl) T.z_all (by decide +kernel) (pa_cons (pe_lc (own := [("spot", 2)]) (by rfl) sc_is_test.nd (pi_tup (pe_slice (kSlT K) (pv 1) (po_some pe_int) po_none)) (blkOk_by (own := [("spot", 2)]) (N := n_is_test) (sc := defScope s_is_test) (by decide +kernel)) (fun _ _ _ _ _ => (pg_name (i := 2) sc_is_test.nd rfl (Or.inl rfl))) (fun _ _ _ _ _ => pts_nil) (fun _ _ _ _ _ => (pe_c (cal_is_word T) hr (by decide) rfl (pa_cons (pv 2) (pa_cons (pe_gc rfl g_SPOTS) pa_nil))))) pa_nil)))) (pw_or1 (PW.pt (pw_and (ptc (kIn K) pe_str (pe_slice (kSlT K) (pv 1) (po_some pe_int) po_none)) (pw_and1 (ptc (kNotIn K) pe_str (pv 0))))))))
        (pss_one (ps_ret pe_bl))
        pss_nil)
      (pss_cons (ps_if (ptc op_eq (pe_callB (kLen K) (by rfl) T.z_len PySem.boot_len (pa_cons (pv 1) pa_nil)) pe_int)
        (pss_one (ps_ret (pec (kIn K) (pix (kIxT K) (pv 1) pe_int) (pe_gc rfl g_PAIRS))))
        pss_nil)
      (pss_cons (ps_if (ptc op_eq (pe_callB (kLen K) (by rfl) T.z_len PySem.boot_len (pa_cons (pv 1) pa_nil)) pe_int)
        (pss_one (ps_ret (pec (kIn K) (pix (kIxT K) (pv 1) pe_int) (pe_gc rfl g_SINGLES))))
        pss_nil)
      (pss_one (ps_ret (pe_or (pec (kIn K) (pix (kIxT K) (pv 1) pe_int) (pe_gc rfl g_ANSWERS)) (pe_one (pe_and (pec (kIn K) (pix (kIxT K) (pv 1) pe_int) (pe_gc rfl g_FLAGS)) (pe_one (pec (kIn K) pe_str (pv 0)))))))))))), ?_⟩
    have few := spots_few t
    have lx : ((headS t :: (spotsT t).map sp3S).map V.str).length = (spotsT t).length + 1 := by
      rw [List.length_map, List.length_cons, List.length_map]
    refine q_when (b := false) (et_or (a := false) (b := false) (et_is (et_not (pt_valB (ev_isTup (ev_var rfl) ev_c hx))) rfl) fun _ => et_is (et_or (a := false) (b := false) (et_is (et_not (et_chain (i := 1) (k := 3) (f := fun i j => decide (i ≤ j)) (g := fun i j => decide (i ≤ j)) ev_c (ev_lenT (ev_var rfl) hx) ev_c (decide_eq_true (by rw [lx]; omega)) (decide_eq_true (by rw [lx]; omega)))) rfl) fun _ => et_is (et_not (pt_valB (ev_isStr (z := headS t) (ev_op (ev_var rfl) ev_c (rv_ixT hx (atI_nat (j := 0) rfl))) ev_c))) rfl) rfl) (fun h => by cases h) fun _ H1 e1 => ?_
    have hx1 := ex_t e1 hx
    have hy1 := ex_t e1 hy
    have sl : ∀ {σ : L2.St} {H2 : Hp}, Ex H1 H2 → σ[1]? = some (some (.ref x)) → EvP (tSl (rSlA K) (tVar 1) (tPart (tC (.int 1))) tNoPart) σ H2 (TpV K (((spotsT t).map sp3S).map V.str)) := fun e2 hσ => sl1 (.str (headS t)) _ (ev_var hσ) (ex_t e2 hx1)
    have allW : Ev (tCB (rAll K) (tCons (tLc (iTup K (tSl (rSlA K) (tVar 1) (tPart (tC (.int 1))) tNoPart)) (gName 2) tYes (tCall (spIsWord K) [] C8.E0 (tCons (tVar 2) (tCons (tC (.ref sp)) tNil))) [2]) tNil)) [some (.ref y), some (.ref x), none] H1 (.bl true) := by
      refine ev_is (ev_allP (bs := ((spotsT t).filter fun _ => true).map fun _ => true) (fun H2 e2 Q2 q2 => sl (Ex.refl _) rfl H2 e2 _ fun v H3 e3 ⟨p, ev, hp⟩ => ?_)) (congrArg V.bl ?_)
      · subst ev
        refine (ep_comp (wi := iTup K (tC (.ref p))) (g := gName 2) (t := tYes) (te := tCall (spIsWord K) [] C8.E0 (tCons (tVar 2) (tCons (tC (.ref sp)) tNil))) (vs := [2]) (σ := [some (.ref y), some (.ref x), none]) (R := fun b => isV (.bl b)) (spotsT t) (fun _ => true) (fun _ => true) (fun s v _ => v = .str (sp3S s)) (fun s σ2 _ => σ2[2]? = some (some (.str (sp3S s)))) (it_tup ev_c hp ?_) ?_ ?_ ?_ ?_ ?_) H3 (Ex.refl _) Q2 fun u H4 e4 r => q2 u H4 (e3.trans e4) r
        · have go : ∀ (l : List Sp3), Paired (fun v y => ∀ H2, Ex H3 H2 → v = V.str (sp3S y)) ((l.map sp3S).map V.str) l := fun l => by
            induction l with
            | nil => exact .nil
            | cons y l ih => exact .cons (fun _ _ => rfl) ih
          exact go _
        · rintro s v H4 _ _ rfl Kt kt
          exact kt _ rfl rfl
        · exact fun _ _ _ _ _ _ => ev_tYes
        · rintro s σ2 H4 _ _ h2 _
          exact ep_v (ev_is (ev_call (sp := spIsWord K) (z := .bl (inV (.str (sp3S s)) ((["own", "above", "base"] : List Str).map V.str))) (ea_cons (ev_var h2) (ea_cons ev_c ea_nil)) fun H5 e5 Q k E => ⟨sp3S s, sp, _, rfl, hS H5, fun H6 e6 => k H6 e6⟩) (by cases s <;> decide +kernel))
        · exact fun b _ _ _ _ h => h
        · exact Nat.le_trans few (by decide)
      · rw [all_map]
        exact List.all_eq_true.mpr fun _ _ => rfl
    refine q_when (b := false) (et_or (a := false) (b := false) (et_is (et_not (pt_valB allW)) rfl) fun _ => et_is (et_and (a := inV (.str "base") (((spotsT t).map sp3S).map V.str)) (b := !inV (.str "base") ((ntsS n).map V.str)) (et_test (ev_inP (neg := false) ev_c (sl (Ex.refl _) rfl) rfl (flat_strs _))) fun _ => et_test (ev_op ev_c (ev_var rfl) (rv_niT hy1 rfl (flat_strs _)))) (base_in _ n (spots_ok ok))) (fun h => by cases h) fun _ H2 e2 => ?_
    have hx2 := ex_t e2 hx1
    have hy2 := ex_t e2 hy1
    have fin : ∀ H3 v, Ex H2 H3 → v = V.bl true → Q v H3 := fun H3 v e3 ev => by
      rw [ev]
      exact k H3 ((e1.trans e2).trans e3)
    have len : ∀ {σ : L2.St} {H3 : Hp}, Ex H2 H3 → σ[1]? = some (some (.ref x)) → Ev (tCB (rLn K) (tCons (tVar 1) tNil)) σ H3 (.int (((spotsT t).length : Int) + 1)) := fun e3 hσ => ev_is (ev_lenT (ev_var hσ) (ex_t e3 hx2)) (by rw [lx]; rfl)
    have hd : ∀ {σ : L2.St} {H3 : Hp}, Ex H2 H3 → σ[1]? = some (some (.ref x)) → Ev (tOp (rIxT K) (tVar 1) (tC (.int 0))) σ H3 (.str (headS t)) := fun e3 hσ => ev_op (ev_var hσ) ev_c (rv_ixT (ex_t e3 hx2) (atI_nat (j := 0) rfl))
    have two : (spotsT t).length = 2 → inV (.str (headS t)) ((["same", "unlike"] : List Str).map V.str) = true := fun h => by
      have g1 : inV (.str "same") ((["same", "unlike"] : List Str).map V.str) = true := by decide +kernel
      have g2 : inV (.str "unlike") ((["same", "unlike"] : List Str).map V.str) = true := by decide +kernel
      cases t with
      | same p q => exact g1
      | unlike p q => exact g2
      | _ => simp [spotsT] at h
    have one : (spotsT t).length = 1 → inV (.str (headS t)) ((["there", "gone"] : List Str).map V.str) = true := fun h => by
      have g1 : inV (.str "there") ((["there", "gone"] : List Str).map V.str) = true := by decide +kernel
      have g2 : inV (.str "gone") ((["there", "gone"] : List Str).map V.str) = true := by decide +kernel
      cases t with
      | there p => exact g1
      | gone p => exact g2
      | _ => simp [spotsT] at h
    have zero : (spotsT t).length = 0 → (inV (.str (headS t)) ((["yes", "no"] : List Str).map V.str) || (inV (.str (headS t)) ((["mine", "free"] : List Str).map V.str) && inV (.str "mine") ((ntsS n).map V.str))) = true := fun h => by
      obtain ⟨b, m⟩ := n
      cases t with
      | mine =>
        have h2 : m = true := ok
        subst h2
        cases b <;> decide +kernel
      | free =>
        have h2 : m = true := ok
        subst h2
        cases b <;> decide +kernel
      | yes => cases b <;> cases m <;> decide +kernel
      | no => cases b <;> cases m <;> decide +kernel
      | _ => simp [spotsT] at h
    refine q_when (b := decide ((spotsT t).length = 2)) (et_is (et_test (ev_eqi (len (Ex.refl _) rfl) ev_c rfl)) (by
        by_cases z : (spotsT t).length = 2
        · rw [decide_eq_true z]
          exact decide_eq_true (by omega)
        · rw [decide_eq_false z]
          exact decide_eq_false (by omega))) (fun h3 H3 e3 => ?_) fun h3 H3 e3 => ?_
    · refine s_ret (ev_op (hd e3 rfl) ev_c (rv_isT (hP _) rfl rfl)) fun H4 e4 => fin H4 _ (e3.trans e4) (congrArg V.bl (two (of_decide_eq_true h3)))
    · refine q_when (b := decide ((spotsT t).length = 1)) (et_is (et_test (ev_eqi (len e3 rfl) ev_c rfl)) (by
        by_cases z : (spotsT t).length = 1
        · rw [decide_eq_true z]
          exact decide_eq_true (by omega)
        · rw [decide_eq_false z]
          exact decide_eq_false (by omega))) (fun h4 H4 e4 => ?_) fun h4 H4 e4 => ?_
      · refine s_ret (ev_op (hd (e3.trans e4) rfl) ev_c (rv_isT (hG _) rfl rfl)) fun H5 e5 => fin H5 _ ((e3.trans e4).trans e5) (congrArg V.bl (one (of_decide_eq_true h4)))
      · have z : (spotsT t).length = 0 := by
          have h5 : ¬ (spotsT t).length = 2 := of_decide_eq_false h3
          have h6 : ¬ (spotsT t).length = 1 := of_decide_eq_false h4
          omega
        refine s_ret (ev_orV (ev_op (hd (e3.trans e4) rfl) ev_c (rv_isT (hA _) rfl rfl)) fun _ => ev_andV (ev_op (hd (e3.trans e4) rfl) ev_c (rv_isT (hF _) rfl rfl)) fun _ => ev_op ev_c (ev_var rfl) (rv_isT (ex_t (e3.trans e4) hy2) rfl (flat_strs _))) fun H5 e5 => fin H5 _ ((e3.trans e4).trans e5) (congrArg V.bl (zero z))
end
end Ci

set_option Elab.async false
set_option linter.all false
set_option maxRecDepth 100000
set_option maxHeartbeats 4000000
/-! is_row, Rule.__init__, Rule.without. -/
namespace Ci
open PySem PySem.Spec PyProof.Rows L2 Evl
open C8 (Cal Met Mak pe_c pe_mk pe_mt pe_mt0 pe_gc)
section
variable {P : Program} {w : World} {K : PySem.W.Frag} {mg : Str → Option Value} {base : Heap}
def spIsRow (K : PySem.W.Frag) : Sp := fun vs H Q _ => ∃ nv tv n r, vs = [nv, tv] ∧ Dp K H nv (strsD (ntsS n)) ∧ Dp K H tv (rowD r) ∧ r.okIn n = true ∧ RetV (.bl true) H Q
theorem cal_is_row (T : Txt K mg) : Cal P w K mg base 3 "is_row" (spIsRow K) [] := by
  obtain ⟨fd, F⟩ := T.f_is_row
  refine calD F T.g_is_row (F.bindsN fun _ _ _ _ _ _ us hl => match us, hl with | [_, _], _ => rfl) sc_is_row (fun vs H Q E h => ?_) (fun cdv A outer s H vs Q E hr h => ?_)
  · obtain ⟨nv, tv, n, r, rfl, _⟩ := h
    rfl
  · obtain ⟨nv, tv, n, r, rfl, hN, hT, ok, k⟩ := h
    obtain ⟨ac, g_ACTIONS, dC⟩ := T.c_ACTIONS
    have g_MOST_TESTS := T.c_MOST_TESTS
    have hC : ∀ H, SqT K H ac ((["take", "keep", "drop", "claim"] : List Str).map V.str) := fun H => by
      obtain ⟨a, e, h⟩ := dp_strs (ss := ["take", "keep", "drop", "claim"]) (dC H)
      cases e
      exact h
    obtain ⟨x, zs, rfl, hx, hz⟩ := dp_tup hT
    cases hz with | cons h1 h2 => cases h2 with | cons h3 h4 =>
    cases h4
    obtain ⟨tt, ts, rfl, htt, htd⟩ := dp_tup h1
    cases h3
    obtain ⟨okn, okt⟩ := He.ba ok
    have okn' : r.tests.length ≤ 4 := of_decide_eq_true okn
    have lt : ts.length = r.tests.length := by rw [dps_len htd, List.length_map]
    refine ⟨_, (pss_cons (ps_if (PW.pt (pw_or (pt_not (pt_val (pe_callB (kIsi K) (by rfl) T.z_isinstance (by decide +kernel) (pa_cons (pv 1) (pa_cons (kTy "tuple" rfl T.z_tuple (by decide +kernel)) pa_nil))))) (pw_or (ptc op_ne (pe_callB (kLen K) (by rfl) T.z_len PySem.boot_len (pa_cons (pv 1) pa_nil)) pe_int) (pw_or1 (pt_not (pt_val (pe_c (cal_is_word T) hr (by decide) rfl (pa_cons (pix (kIxT K) (pv 1) pe_int) (pa_cons (pe_gc rfl g_ACTIONS) pa_nil)))))))))
        (pss_one (ps_ret pe_bl))
        pss_nil)
      (pss_cons (ps_if (PW.pt (pw_or (pt_not (pt_val (pe_callB (kIsi K) (by rfl) T.z_isinstance (by decide +kernel) (pa_cons (pix (kIxT K) (pv 1) pe_int) (pa_cons (kTy "tuple" rfl T.z_tuple (by decide +kernel)) pa_nil))))) (pw_or1 (ptc op_gt (pe_callB (kLen K) (by rfl) T.z_len PySem.boot_len (pa_cons (pix (kIxT K) (pv 1) pe_int) pa_nil)) (pe_gc rfl g_MOST_TESTS)))))
        (pss_one (ps_ret pe_bl))
        pss_nil)
      (pss_one (ps_ret (pe_callB (kAll K) (by rfl) T.z_all (by decide +kernel) (pa_cons (pe_lc (own := [("test", 2)]) (by rfl) sc_is_row.nd (pi_tup (pix (kIxT K) (pv 1) pe_int)) (blkOk_by (own := [("test", 2)]) (N := n_is_row) (sc := defScope s_is_row) (by decide +kernel)) (fun _ _ _ _ _ => (pg_name (i := 2) sc_is_row.nd rfl (Or.inl rfl))) (fun _ _ _ _ _ => pts_nil) (fun _ _ _ _ _ => (pe_c (cal_is_test T) hr (by decide) rfl (pa_cons (pv 0) (pa_cons (pv 2) pa_nil))))) pa_nil)))))), ?_⟩
    refine q_when (b := false) (et_or (a := false) (b := false) (et_is (et_not (pt_valB (ev_isTup (ev_var rfl) ev_c hx))) rfl) fun _ => et_is (et_or (a := false) (b := false) (et_test (ev_nei (j := 2) (ev_lenT (ev_var rfl) hx) ev_c rfl)) fun _ => et_is (et_not (et_test (ev_is (ev_call (sp := spIsWord K) (z := .bl (inV (.str (actS r.act)) ((["take", "keep", "drop", "claim"] : List Str).map V.str))) (ea_cons (ev_op (ev_var rfl) ev_c (rv_ixT hx (atI_nat (j := 1) rfl))) (ea_cons ev_c ea_nil)) fun H5 e5 Q k E => ⟨actS r.act, ac, _, rfl, hC H5, fun H6 e6 => k H6 e6⟩) (w := .bl true) ?_))) rfl) rfl) (fun h => by cases h) fun _ H1 e1 => ?_
    · cases r.act <;> decide +kernel
    have hx1 := ex_t e1 hx
    refine q_when (b := false) (et_or (a := false) (b := false) (et_is (et_not (pt_valB (ev_isTup (ev_op (ev_var rfl) ev_c (rv_ixT hx1 (atI_nat (j := 0) rfl))) ev_c (ex_t e1 htt)))) rfl) fun _ => et_test (ev_gt (j := 4) (ev_lenT (ev_op (ev_var rfl) ev_c (rv_ixT hx1 (atI_nat (j := 0) rfl))) (ex_t e1 htt)) ev_c (decide_eq_false (by rw [lt]; omega)))) (fun h => by cases h) fun _ H2 e2 => ?_
    have e12 := e1.trans e2
    refine s_ret (ev_is (ev_allP (bs := (r.tests.filter fun _ => true).map fun _ => true) (ep_comp (R := fun b => isV (.bl b)) r.tests (fun _ => true) (fun _ => true) (fun t v H' => Dp K H' v (testD t)) (fun t σ2 H' => ∃ v, σ2[2]? = some (some v) ∧ σ2[0]? = some (some nv) ∧ Dp K H' v (testD t)) (it_tup (ev_op (ev_var rfl) ev_c (rv_ixT (ex_t e12 hx) (atI_nat (j := 0) rfl))) (ex_t e12 htt) (Paired.mapP (dps_paired testD (fun t => noL_strs _) htd) fun _ _ h H3 e3 => h H3 (tOf (e12.trans e3)))) ?_ ?_ ?_ ?_ ?_)) (congrArg V.bl ?_)) fun H3 e3 => k H3 (e12.trans e3)
    · rintro t v H3 _ _ D Kt kt
      exact kt _ rfl ⟨v, rfl, rfl, D⟩
    · exact fun _ _ _ _ _ _ => ev_tYes
    · rintro t σ2 H3 hm e3 ⟨v, h2, h0, D⟩ _
      exact ep_v (ev_call (sp := spIsTest K) (ea_cons (ev_var h0) (ea_cons (ev_var h2) ea_nil)) fun H5 e5 Q k E => ⟨nv, v, n, t, rfl, dpT (tOf ((e12.trans e3).trans e5)) _ _ (noL_strs _) hN, dpT (tOf e5) _ _ (noL_strs _) D, List.all_eq_true.mp okt t hm, fun H6 e6 => k H6 e6⟩)
    · exact fun b _ _ _ _ h => h
    · exact Nat.le_trans okn' (by decide)
    · rw [all_map]
      exact List.all_eq_true.mpr fun _ _ => rfl
def spRuleInit (K : PySem.W.Frag) : Sp := fun vs H Q _ => ∃ p dx nv tv n rows, vs = [.ref p, nv, tv] ∧ H p = some (.ins (aRule K) dx []) ∧ Dp K H nv (strsD (ntsS n)) ∧ Dp K H tv (rowsD rows) ∧ rows.length ≤ 8 ∧ (∀ r ∈ rows, r.okIn n = true) ∧
  ∀ H', Ex H H' → Q .non (upd H' p (.ins (aRule K) dx (rlF nv tv)))
theorem mak_Rule (T : Txt K mg) : Mak P w K mg base 4 "Rule" (aRule K) (spRuleInit K) [] := by
  obtain ⟨fd, F⟩ := T.f_Rule_init
  refine makD T.mk_Rule T.g_Rule F (F.bindsN fun _ _ _ _ _ _ us hl => match us, hl with | [_, _, _], _ => rfl) sc_Rule_init (fun vs H Q E h => ?_) (fun cdv A outer s H vs Q E hr h => ?_)
  · obtain ⟨p, dx, nv, tv, n, rows, rfl, _⟩ := h
    rfl
  · obtain ⟨p, dx, nv, tv, n, rows, rfl, hp, hN, hT, few, ok, k⟩ := h
    have g_MOST_ROWS := T.c_MOST_ROWS
    obtain ⟨x, xs, rfl, hx, hd⟩ := dp_tup hT
    have lx : xs.length = rows.length := by rw [dps_len hd, List.length_map]
    refine ⟨_, (pss_cons (ps_if (pt_not (pt_val (pe_c (cal_are_notes T) hr (by decide) rfl (pa_cons (pv 1) pa_nil))))
        (pss_one ps_never)
        pss_nil)
      (pss_cons (ps_if (PW.pt (pw_or (pt_not (pt_val (pe_callB (kIsi K) (by rfl) T.z_isinstance (by decide +kernel) (pa_cons (pv 2) (pa_cons (kTy "tuple" rfl T.z_tuple (by decide +kernel)) pa_nil))))) (pw_or1 (ptc op_gt (pe_callB (kLen K) (by rfl) T.z_len PySem.boot_len (pa_cons (pv 2) pa_nil)) (pe_gc rfl g_MOST_ROWS)))))
        (pss_one ps_never)
        pss_nil)
      (pss_cons (ps_for PassesOwn.never rfl (CiR.pi_enumT (by rfl) T.z_enumerate (pa_cons (pv 2) pa_nil)) (kTup K (n := 2) (pgs_cons (pg_name (i := 3) sc_Rule_init.nd rfl (Or.inl rfl)) (pgs_cons (pg_name (i := 4) sc_Rule_init.nd rfl (Or.inl rfl)) pgs_nil)))
        (pss_one (ps_if (pt_not (pt_val (pe_c (cal_is_row T) hr (by decide) rfl (pa_cons (pv 1) (pa_cons (pv 4) pa_nil)))))
          (pss_one ps_never)
          pss_nil)))
      (pss_cons (ps_fld (pv 0) (pv 1) rfl)
      (pss_one (ps_fld (pv 0) (pv 2) rfl)))))), ?_⟩
    refine q_when (b := false) (et_is (et_not (et_test (ev_call (sp := spAreNotes K) (z := .bl true) (ea_cons (ev_var rfl) ea_nil) fun H5 e5 Q k E => ⟨nv, n, rfl, dpT (tOf e5) _ _ (noL_strs _) hN, fun H6 e6 => k H6 e6⟩))) rfl) (fun h => by cases h) fun _ H1 e1 => ?_
    refine q_when (b := false) (et_or (a := false) (b := false) (et_is (et_not (pt_valB (ev_isTup (ev_var rfl) ev_c (ex_t e1 hx)))) rfl) fun _ => et_test (ev_gt (j := 8) (ev_lenT (ev_var rfl) (ex_t e1 hx)) ev_c (decide_eq_false (by rw [lx]; omega)))) (fun h => by cases h) fun _ H2 e2 => ?_
    have e12 := e1.trans e2
    refine (s_for (itt_enum (as := rows) (Rb := fun row y H' => Dp K H' y (rowD row)) (ea_cons (ev_var rfl) ea_nil) (ex_t e12 hx) (dps_paired rowD noL_row (dpsT (tOf e12) _ _ (noLs_map rowD noL_row rows) hd))) (fun H3 i σ' H' => Ex H3 H' ∧ ∃ u3 u4, σ' = [some (.ref p), some nv, some (.ref x), u3, u4]) (fun H3 e3 => ⟨Ex.refl _, none, none, rfl⟩) (fun H3 i σ' H' h => tOf h.1) ?_ ?_)
    · rintro H3 i row xv σ' Ha Hb e3 hrow ⟨ea, u3, u4, rfl⟩ eab ⟨A', y1, rfl, hA, hd2⟩
      refine ⟨A', _, rfl, SqT.of hA, rfl, .int (i : Nat), _, rfl, y1, _, rfl, rfl, ?_⟩
      have e := (e12.trans e3).trans (ea.trans eab)
      refine s_when (b := false) (et_is (et_not (et_test (ev_call (sp := spIsRow K) (z := .bl true) (ea_cons (ev_var rfl) (ea_cons (ev_var rfl) ea_nil)) fun H5 e5 Q k E => ⟨nv, y1, n, row, rfl, dpT (tOf (e.trans e5)) _ _ (noL_strs _) hN, dpT (tOf e5) _ _ (noL_row _) hd2, ok row (List.mem_of_getElem? hrow), fun H6 e6 => k H6 e6⟩))) rfl) (fun h => by cases h) fun _ H5 e5 => ⟨(ea.trans eab).trans e5, _, _, rfl⟩
    · rintro H3 σ' H' e3 ⟨ea, u3, u4, rfl⟩
      have e := (e12.trans e3).trans ea
      refine ⟨nv, rfl, _, rfl, p, _, dx, [], rfl, e _ _ hp, T.cl_Rule, T.na_Rule_looks, (by decide), ?_⟩
      refine ⟨.ref x, rfl, _, rfl, p, _, dx, [("looks", nv)], rfl, upd_same, T.cl_Rule, T.na_Rule_table, (by show 1 < 1000; decide), ?_⟩
      rw [upd_upd]
      exact k H' e
/-- a rule with notes n -/
def isRule (K : PySem.W.Frag) (n : Nts) (rows : List Row) : Pr := fun v H => ∃ r, v = .ref r ∧ RlAt K H r (ntsS n) rows
theorem stb_isRule (K : PySem.W.Frag) (n : Nts) (rows : List Row) : StbT (isRule K n rows) := fun _ _ _ e ⟨r, h, R⟩ => ⟨r, h, R.t e⟩
section
variable {σ : L2.St} {H : Hp} {tt : TA} {E : XK} {ta te : TE}
theorem ep_Rule {n : Nts} {rows : List Row} (few : rows.length ≤ 8) (ok : ∀ r ∈ rows, r.okIn n = true) (h : EvAs tt σ H (fun vs H1 => ∃ nv tv, vs = [nv, tv] ∧ Dp K H1 nv (strsD (ntsS n)) ∧ Dp K H1 tv (rowsD rows))) : EvP (tMake (aRule K) (spRuleInit K) [] E tt) σ H (isRule K n rows) := fun H1 e1 Q q =>
  h H1 e1 _ fun vs H2 e2 ⟨nv, tv, ev, hN, hT⟩ => fun x dx nx ndx nex => by
    subst ev
    have n0 : (L2.upd H2 dx (.own x)) x = none := by
      rw [upd_ne (Ne.symm nex)]
      exact nx
    have e3 : Ex H2 (L2.upd H2 dx (.own x)) := Ex.new ndx
    have e4 : Ex H2 (L2.upd (L2.upd H2 dx (.own x)) x (.ins (aRule K) dx [])) := e3.trans (Ex.new n0)
    refine ⟨x, dx, nv, tv, n, rows, rfl, upd_same, dpT (tOf e4) _ _ (noL_strs _) hN, dpT (tOf e4) _ _ (noL_rows _) hT, few, ok, fun H' e' => ⟨rfl, ?_⟩⟩
    have e5 : Ex H2 (L2.upd H' x (.ins (aRule K) dx (rlF nv tv))) := Ex.mut (e3.trans ((Ex.new n0).trans e')) nx
    refine q _ _ (e2.trans e5) ⟨x, rfl, ⟨dx, nv, tv, upd_same, dpT (tOf e5) _ _ (noL_strs _) hN, dpT (tOf e5) _ _ (noL_rows _) hT⟩, ⟨few, fun r hr => of_decide_eq_true (He.ba (ok r hr)).1⟩, n, rfl, ok⟩
end
end
end Ci

set_option Elab.async false
set_option linter.all false
set_option maxRecDepth 100000
set_option maxHeartbeats 4000000
/-! Rule.without, rules_with. -/
namespace Ci
open PySem PySem.Spec PyProof.Rows L2 Evl
open C8 (Cal Met Mak pe_c pe_mk pe_mt pe_mt0 pe_gc)
section
variable {K : PySem.W.Frag} {σ : L2.St} {H : Hp} {ta tb te : TE} {tt : TA} {xs ys : List V}
theorem ep_catA (ha : EvP ta σ H (TpV K xs)) (hb : EvP tb σ H (TpV K ys)) (hz : xs.length + ys.length ≤ sizeLine) : EvP (tOp (rCatA K) ta tb) σ H (TpV K (xs ++ ys)) := fun H1 e1 Q q =>
  ha H1 e1 _ fun v H2 e2 ⟨a, ea, hxa⟩ => hb H2 (e1.trans e2) _ fun u H3 e3 ⟨b, eb, hyb⟩ => by
    subst ea eb
    have hx3 := ex_t e3 hxa
    refine ⟨a, b, xs, ys, rfl, rfl, hx3, hyb, hz, fun h => q _ H3 (e2.trans e3) ⟨b, rfl, ?_⟩, fun _ h => q _ H3 (e2.trans e3) ⟨a, rfl, ?_⟩, fun _ _ p hp => q _ _ ((e2.trans e3).trans (Ex.new hp)) ⟨p, rfl, SqT.of upd_same⟩⟩
    · rw [h, List.nil_append]
      exact hyb
    · rw [h, List.append_nil]
      exact hx3
theorem cut_to (xs : List V) (i : Nat) : cutV xs none (some (i : Int)) = xs.take i := by
  unfold cutV
  rw [HT.sIx_none, HT.sIx_nat, List.drop_zero, Nat.sub_zero]
  by_cases h : i ≤ xs.length
  · rw [Nat.min_eq_left h]
  · rw [Nat.min_eq_right (by omega), List.take_of_length_le (Nat.le_refl _), List.take_of_length_le (by omega)]
theorem cut_from (xs : List V) (i : Nat) : cutV xs (some (i : Int)) none = xs.drop i := by
  unfold cutV
  rw [HT.sIx_none, HT.sIx_nat]
  by_cases h : i ≤ xs.length
  · rw [Nat.min_eq_left h]
    exact List.take_of_length_le (by rw [List.length_drop]; omega)
  · rw [Nat.min_eq_right (by omega), List.drop_of_length_le (Nat.le_refl _), List.drop_of_length_le (by omega), List.take_nil]
theorem dps_take : ∀ {xs : List V} {ds : List PyData} (i : Nat), DpAll K H xs ds → DpAll K H (xs.take i) (ds.take i)
  | _, _, 0, _ => by
    rw [List.take_zero, List.take_zero]
    exact .nil
  | _, _, i + 1, .nil => .nil
  | _, _, i + 1, .cons h t => .cons h (dps_take i t)
theorem dps_drop : ∀ {xs : List V} {ds : List PyData} (i : Nat), DpAll K H xs ds → DpAll K H (xs.drop i) (ds.drop i)
  | _, _, 0, h => h
  | _, _, i + 1, .nil => .nil
  | _, _, i + 1, .cons h t => dps_drop i t
/-! tuples of data, made here -/
def EvD (K : PySem.W.Frag) (tt : TA) (σ : L2.St) (H : Hp) (ds : List PyData) : Prop := EvAs tt σ H (fun vs H1 => DpAll K H1 vs ds)
theorem ed_nil : EvD K tNil σ H [] := fun H1 e1 Q q => eas_nil (σ := σ) (H := H) H1 e1 _ fun vs H2 e2 h => q vs H2 e2 (by rw [h]; exact .nil)
theorem ed_cons {d : PyData} {ds : List PyData} (n : noL d = true) (h : EvP te σ H (isD K d)) (hr : EvD K tt σ H ds) : EvD K (tCons te tt) σ H (d :: ds) := fun H1 e1 Q q =>
  eas_cons h (stb_isD K n).s hr H1 e1 _ fun vs H2 e2 ⟨v, r, hv, h1, h2⟩ => q vs H2 e2 (by rw [hv]; exact .cons h1 h2)
theorem ed_tup {ds : List PyData} (n : noLs ds = true) (h : EvD K tt σ H ds) (few : ds.length ≤ 1000) : EvP (tTup tt) σ H (isD K (.tuple ds)) :=
  ep_tupA (n := ds.length) h (fun vs H1 r => dps_len r) (Nat.le_trans few (by decide)) fun vs a H1 H2 _ r e2 hp => .tup (SqT.of hp) (dpsT (tOf e2) _ _ n r)
theorem ed_str (z : Str) : EvP (tC (.str z)) σ H (isD K (.str z)) := ep_of ev_c fun _ _ => .str z
theorem ed_c {v : V} {d : PyData} (h : ∀ H, Dp K H v d) : EvP (tC v) σ H (isD K d) := ep_of ev_c fun H1 _ => h H1
theorem ed_v {v : V} {d : PyData} (hv : Ev te σ H v) (n : noL d = true) (h : Dp K H v d) : EvP te σ H (isD K d) := ep_of hv fun H1 e => dpT (tOf e) _ _ n h
end
section
variable {P : Program} {w : World} {K : PySem.W.Frag} {mg : Str → Option Value} {base : Heap}
def spWithout (K : PySem.W.Frag) : Sp := fun vs H Q _ => ∃ p n rows, ∃ i : Nat, vs = [.ref p, .int i] ∧ RlAt K H p (ntsS n) rows ∧ i < rows.length ∧ RetP (isRule K n (rows.take i ++ rows.drop (i + 1))) H Q
theorem rows_okn {n : Nts} {rows : List Row} {notes : List Str} {H : Hp} {p : Addr} (h : RlAt K H p notes rows) (e : notes = ntsS n) : ∀ r ∈ rows, r.okIn n = true := by
  obtain ⟨m, h1, h2⟩ := h.ok
  have : n = m := by
    rw [e] at h1
    obtain ⟨a, b⟩ := n
    obtain ⟨c, d⟩ := m
    cases a <;> cases b <;> cases c <;> cases d <;> first | rfl | (exact absurd h1 (by decide +kernel))
  rw [this]
  exact h2
theorem met_Rule_without (T : Txt K mg) : Met P w K mg base 6 (aRule K) "without" (spWithout K) [] := by
  obtain ⟨fd, F⟩ := T.f_Rule_without
  refine metD T.cl_Rule T.m_Rule_without F (F.bindsN fun _ _ _ _ _ _ us hl => match us, hl with | [_, _], _ => rfl) sc_Rule_without (fun vs H Q E h => ?_) (fun cdv A outer s H vs Q E hr h => ?_)
  · obtain ⟨p, n, rows, i, rfl, _⟩ := h
    rfl
  · obtain ⟨p, n, rows, i, rfl, Rp, hi, k⟩ := h
    have okr := rows_okn Rp rfl
    obtain ⟨dx, nv, tv, hR, hN, hT⟩ := id Rp.ex
    obtain ⟨x, xs, rfl, hx, hd⟩ := dp_tup hT
    have lx : xs.length = rows.length := by rw [dps_len hd, List.length_map]
    have m8 := Rp.many.1
    refine ⟨_, (pss_cons (ps_if (PW.pt (pw_or (pt_not (pt_val (pe_c (cal_is_integer T) hr (by decide) rfl (pa_cons (pv 1) pa_nil)))) (pw_or1 (pt_not (pt_chain op_le op_lt pe_int (pv 1) (pe_callB (kLen K) (by rfl) T.z_len PySem.boot_len (pa_cons (pf K (pv 0)) pa_nil)))))))
        (pss_one ps_never)
        pss_nil)
      (pss_one (ps_ret (pe_mk (mak_Rule T) hr (by decide) rfl (pa_cons (pf K (pv 0)) (pa_cons (pe_op (kCatT K) (pe_slice (kSlT K) (pf K (pv 0)) po_none (po_some (pv 1))) (pe_slice (kSlT K) (pf K (pv 0)) (po_some (pe_op op_add (pv 1) pe_int)) po_none)) pa_nil)))))), ?_⟩
    have tab : ∀ {σ : L2.St} {H1 : Hp}, Ex H H1 → σ[0]? = some (some (.ref p)) → Ev (tFld K (tVar 0) "table") σ H1 (.ref x) := fun e hσ => ev_fld (ev_var hσ) (e _ _ hR) T.cl_Rule T.na_Rule_table rfl
    have lks : ∀ {σ : L2.St} {H1 : Hp}, Ex H H1 → σ[0]? = some (some (.ref p)) → Ev (tFld K (tVar 0) "looks") σ H1 nv := fun e hσ => ev_fld (ev_var hσ) (e _ _ hR) T.cl_Rule T.na_Rule_looks rfl
    refine q_when (b := false) (et_or (a := false) (b := false) (et_is (et_not (et_test (ev_call (sp := spIsInteger) (z := .bl true) (ea_cons (ev_var rfl) ea_nil) fun H5 e5 Q k E => ⟨i, rfl, fun H6 e6 => k H6 e6⟩))) rfl) fun _ => et_is (et_not (et_chain (i := 0) (j := (i : Int)) (f := fun i j => decide (i ≤ j)) (g := fun i j => decide (i < j)) ev_c (ev_var rfl) (ev_lenT (tab (Ex.refl _) rfl) hx) (decide_eq_true (by omega)) (decide_eq_true (by rw [lx]; omega)))) rfl) (fun h => by cases h) fun _ H1 e1 => ?_
    have hx1 := ex_t e1 hx
    refine sp_ret (ep_Rule (n := n) (rows := rows.take i ++ rows.drop (i + 1)) ?_ ?_ fun H2 e2 Q2 q2 => (eas_v (lks e1 rfl) (eas_cons (ep_catA (xs := xs.take i) (ys := xs.drop (i + 1)) (by
        have h := ep_slA (hi := some (i : Int)) (th := tPart (tVar 1)) (tl := tNoPart) (lo := none) (tab e1 rfl) eo_none (eo_some (ev_var (σ := [some (.ref p), some (.int (i : Nat))]) rfl)) hx1
        rw [cut_to] at h
        exact h) (by
        have h := ep_slA (lo := some ((i + 1 : Nat) : Int)) (tl := tPart (tOp (rI0 fun i j => .int (i + j)) (tVar 1) (tC (.int 1)))) (hi := none) (th := tNoPart) (tab e1 rfl) (eo_some (ev_op (x := .int (i : Nat)) (y := .int 1) (ev_var (σ := [some (.ref p), some (.int (i : Nat))]) rfl) ev_c (rv_I0 (g := fun i j => V.int (i + j))))) eo_none hx1
        rw [cut_from] at h
        exact h) ?_) (stb_TpV K _).s eas_nil)) H2 e2 _ fun vs H3 e3 ⟨r1, h1, v2, r2, h2, ⟨a, h3, h4⟩, h5⟩ => ?_) fun v H2 e2 h => k v H2 (e1.trans e2) h
    · rw [List.length_append, List.length_take, List.length_drop]
      omega
    · intro r hr
      rcases List.mem_append.mp hr with h | h
      · exact okr r (List.mem_of_mem_take h)
      · exact okr r (List.mem_of_mem_drop h)
    · rw [List.length_take, List.length_drop]
      exact sz_of (by omega)
    · subst h1 h2 h5 h3
      have e := (e1.trans e2).trans e3
      refine q2 _ H3 e3 ⟨nv, .ref a, rfl, dpT (tOf e) _ _ (noL_strs _) hN, .tup h4 ?_⟩
      rw [List.map_append, List.map_take, List.map_drop]
      have hd3 := dpsT (tOf e) _ _ (noLs_map rowD noL_row rows) hd
      exact dps_app (dps_take i hd3) (dps_drop (i + 1) hd3)
theorem qp_lsA {σ : L2.St} {H : Hp} {tt : TA} {Rs : List V → Hp → Prop} {i : Nat} {tz : TS} {Dn : Ends} (h : EvAs tt σ H Rs) (hz : ∀ vs H1, Rs vs H1 → vs.length ≤ 1000) (k : ∀ vs D H1, Ex H H1 → Rs vs H1 → H1 D = none → tz Dn (σ.set i (some (.ref D))) (upd H1 D (.lst vs))) : tSeq (tAsg (tLst tt) (gName i)) tz Dn σ H :=
  h H (Ex.refl _) _ fun vs H1 e r => ⟨sz_of (Nat.le_trans (hz vs H1 r) (by decide)), fun p hp => k vs p H1 e r hp⟩
theorem mine_in (n : Nts) : inV (.str "mine") ((ntsS n).map V.str) = n.mine := by
  obtain ⟨a, b⟩ := n
  cases a <;> cases b <;> decide +kernel
theorem base_in2 (n : Nts) : inV (.str "base") ((ntsS n).map V.str) = n.base := by
  obtain ⟨a, b⟩ := n
  cases a <;> cases b <;> decide +kernel
def rulesFor (n : Nts) : List (List Row) := [[], [⟨[], .take⟩], [⟨[.there .own, .gone .above], .take⟩]] ++ ((if n.mine then [[⟨[.free], .take⟩]] else []) ++ (if n.base then [[⟨[.same .own .base], .take⟩]] else []))
def spRulesWith (K : PySem.W.Frag) : Sp := fun vs H Q _ => ∃ v n, vs = [v] ∧ Dp K H v (strsD (ntsS n)) ∧ RetP (LsP (isRule K n) (rulesFor n)) H Q
theorem cal_rules_with (T : Txt K mg) : Cal P w K mg base 6 "rules_with" (spRulesWith K) [] := by
  obtain ⟨fd, F⟩ := T.f_rules_with
  refine calD F T.g_rules_with (F.bindsN fun _ _ _ _ _ _ us hl => match us, hl with | [_], _ => rfl) sc_rules_with (fun vs H Q E h => ?_) (fun cdv A outer s H vs Q E hr h => ?_)
  · obtain ⟨v, n, rfl, _⟩ := h
    rfl
  · obtain ⟨v, n, rfl, hN, k⟩ := h
    obtain ⟨fr, g_FREE, dF⟩ := T.c_FREE
    obtain ⟨sa, g_SAME, dS⟩ := T.c_SAME
    obtain ⟨de, g_DELETED, dD⟩ := T.c_DELETED
    obtain ⟨y, rfl, hy⟩ := dp_strs hN
    refine ⟨_, (pss_cons (ps_set (i := 1) sc_rules_with.nd rfl (Or.inl rfl) (pe_lst (pa_cons (pe_mk (mak_Rule T) hr (by decide) rfl (pa_cons (pv 0) (pa_cons (pe_tup pa_nil) pa_nil))) (pa_cons (pe_mk (mak_Rule T) hr (by decide) rfl (pa_cons (pv 0) (pa_cons (pe_tup (pa_cons (pe_tup (pa_cons (pe_tup pa_nil) (pa_cons pe_str pa_nil))) pa_nil)) pa_nil))) (pa_cons (pe_mk (mak_Rule T) hr (by decide) rfl (pa_cons (pv 0) (pa_cons (pe_tup (pa_cons (pe_tup (pa_cons (pe_gc rfl g_DELETED) (pa_cons pe_str pa_nil))) pa_nil)) pa_nil))) pa_nil)))))
      (pss_cons (ps_if (ptc (kIn K) pe_str (pv 0))
        (pss_one (ps_expr (pe_bm PySem.F.plainAttrs_list PySem.F.slot_list_append PySem.F.type_list_append mt_append (pv 1) (pa_cons (pe_mk (mak_Rule T) hr (by decide) rfl (pa_cons (pv 0) (pa_cons (pe_tup (pa_cons (pe_tup (pa_cons (pe_gc rfl g_FREE) (pa_cons pe_str pa_nil))) pa_nil)) pa_nil))) pa_nil))))
        pss_nil)
      (pss_cons (ps_if (ptc (kIn K) pe_str (pv 0))
        (pss_one (ps_expr (pe_bm PySem.F.plainAttrs_list PySem.F.slot_list_append PySem.F.type_list_append mt_append (pv 1) (pa_cons (pe_mk (mak_Rule T) hr (by decide) rfl (pa_cons (pv 0) (pa_cons (pe_tup (pa_cons (pe_tup (pa_cons (pe_gc rfl g_SAME) (pa_cons pe_str pa_nil))) pa_nil)) pa_nil))) pa_nil))))
        pss_nil)
      (pss_one (ps_ret (pv 1)))))), ?_⟩
    have rule : ∀ {σ : L2.St} {H1 : Hp} {te : TE} {rows : List Row}, Ex H H1 → σ[0]? = some (some (.ref y)) → rows.length ≤ 8 → (∀ r ∈ rows, r.okIn n = true) → EvP te σ H1 (isD K (rowsD rows)) → EvP (tMake (aRule K) (spRuleInit K) [] C8.E0 (tCons (tVar 0) (tCons te tNil))) σ H1 (isRule K n rows) := fun {σ H1 te rows} e hσ few ok h =>
      ep_Rule few ok fun H2 e2 Q2 q2 => (ed_cons (noL_strs (ntsS n)) (ed_v (ev_var hσ) (noL_strs _) (dpT (tOf e) _ _ (noL_strs _) hN)) (ed_cons (noL_rows rows) h ed_nil)) H2 e2 _ fun vs H3 e3 h3 => by
        cases h3 with | cons h1 h2 => cases h2 with | cons h3 h4 =>
        cases h4
        exact q2 _ H3 e3 ⟨_, _, rfl, h1, h3⟩
    -- one row with tests of data
    have row : ∀ {σ : L2.St} {H1 : Hp} {te : TE} {r : Row}, r.act = .take → EvP te σ H1 (isD K (.tuple (r.tests.map testD))) → EvP (tTup (tCons (tTup (tCons te (tCons (tC (.str "take")) tNil))) tNil)) σ H1 (isD K (rowsD [r])) := fun {σ H1 te r} ha h => by
      obtain ⟨ts, act⟩ := r
      cases ha
      refine ed_tup (noLs_map rowD noL_row [_]) (ed_cons (noL_row _) (ed_tup ?_ (ed_cons ?_ h (ed_cons rfl (ed_str "take") ed_nil)) (by show 2 ≤ 1000; decide)) ed_nil) (by show 1 ≤ 1000; decide)
      · have := noL_row ⟨ts, .take⟩
        unfold rowD at this
        rw [noL_tup] at this
        exact this
      · rw [noL_tup]
        exact noLs_map testD (fun t => noL_strs _) ts
    have r1 : EvP (tTup tNil) [some (.ref y), none] H (isD K (rowsD [])) := ed_tup rfl ed_nil (by decide)
    have one : ∀ {r : Row}, r.okIn n = true → ∀ q ∈ [r], q.okIn n = true := fun h q hq => by
      rw [List.mem_singleton.mp hq]
      exact h
    have stR : ∀ (bs : List (List Row)) (vs : List V) H1 H2, ExT H1 H2 → Paired (fun y b => isRule K n b y H1) vs bs → Paired (fun y b => isRule K n b y H2) vs bs := fun bs vs H1 H2 e h => Paired.mapP h fun _ _ z => stb_isRule K n _ _ _ _ e z
    have okD : (⟨[.there .own, .gone .above], .take⟩ : Row).okIn n = true := rfl
    refine qp_lsA (Rs := fun vs H1 => Paired (fun y b => isRule K n b y H1) vs [[], [⟨[], .take⟩], [⟨[.there .own, .gone .above], .take⟩]]) (fun H2 e2 Q2 q2 => (eas_cons (rule (rows := []) (Ex.refl _) rfl (by decide) (fun r hr => by cases hr) r1) (stb_isRule K n _).s (eas_cons (rule (rows := [⟨[], .take⟩]) (Ex.refl _) rfl (by decide) (one rfl) (row (r := ⟨[], .take⟩) rfl (ed_tup rfl ed_nil (by decide)))) (stb_isRule K n _).s (eas_cons (rule (rows := [⟨[.there .own, .gone .above], .take⟩]) (Ex.refl _) rfl (by decide) (one okD) (row (r := ⟨[.there .own, .gone .above], .take⟩) rfl (ed_c dD))) (stb_isRule K n _).s eas_nil))) H2 e2 _ fun vs H3 e3 ⟨v1, r1, h1, g1, v2, r2, h2, g2, v3, r3, h3, g3, h4⟩ => ?_) (fun vs H1 r => by rw [Paired.length r]; decide) fun vs D H1 e1 r hD => ?_
    · subst h1 h2 h3 h4
      exact q2 _ H3 e3 (.cons g1 (.cons g2 (.cons g3 .nil)))
    have hD0 := fresh_back e1 hD
    have e1' := e1.trans (Ex.new hD (o := .lst vs))
    have r' := stR _ _ _ _ (tOf (Ex.new hD (o := .lst vs))) r
    generalize hH2 : L2.upd H1 D (.lst vs) = H2 at e1' r'
    have hl2 : H2 D = some (.lst vs) := by
      rw [← hH2]
      exact upd_same
    have lv := Paired.length r'
    have okF : n.mine = true → (⟨[.free], .take⟩ : Row).okIn n = true := fun h => by
      show (true && (n.mine && true)) = true
      rw [h]
      rfl
    have okS : n.base = true → (⟨[.same .own .base], .take⟩ : Row).okIn n = true := fun h => by
      show (true && ((true && n.base) && true)) = true
      rw [h]
      rfl
    have fin : ∀ {H' : Hp} {ys : List V} {bs : List (List Row)}, Ex H H' → H' D = some (.lst ys) → Paired (fun y b => isRule K n b y H') ys bs → bs = rulesFor n → ∀ H3, Ex H' H3 → Q (.ref D) H3 := fun {H' ys bs} e hl hp hb H3 e3 => by
      rw [hb] at hp
      exact k _ H3 (e.trans e3) ⟨D, ys, rfl, e3 _ _ hl, stR _ _ _ _ (tOf e3) hp⟩
    have tm : ∀ {H' : Hp} {σ : L2.St}, Ex H H' → σ[0]? = some (some (.ref y)) → EvT (tTest (tOp (rIn K false) (tC (.str "mine")) (tVar 0))) σ H' n.mine := fun e hσ => et_is (et_test (ev_op ev_c (ev_var hσ) (rv_isT (ex_t e hy) rfl (flat_strs _)))) (mine_in n)
    have tb : ∀ {H' : Hp} {σ : L2.St}, Ex H H' → σ[0]? = some (some (.ref y)) → EvT (tTest (tOp (rIn K false) (tC (.str "base")) (tVar 0))) σ H' n.base := fun e hσ => et_is (et_test (ev_op ev_c (ev_var hσ) (rv_isT (ex_t e hy) rfl (flat_strs _)))) (base_in2 n)
    refine q_when (tm e1' rfl) (fun hm H3 e3 => ?_) (fun hm H3 e3 => ?_)
    · refine s_appP (R := isRule K n [⟨[.free], .take⟩]) (e3 _ _ hl2) (ev_var rfl) (rule (e1'.trans e3) rfl (by decide) (one (okF hm)) (row (r := ⟨[.free], .take⟩) rfl (ed_c dF))) (by rw [lv]; decide) fun v H4 e4 hv => ?_
      have hl4 := e4 _ _ (e3 _ _ hl2)
      have eU : ExT H4 (L2.upd H4 D (.lst (vs ++ [v]))) := ExT.upd (ExT.refl _) hl4 fun z => z
      have p5 := paired_app (stR _ _ _ _ ((tOf (e3.trans e4)).trans eU) r') (.cons (stb_isRule K n _ _ _ _ eU hv) .nil)
      have e5 : Ex H (L2.upd H4 D (.lst (vs ++ [v]))) := Ex.mut ((e1'.trans e3).trans e4) hD0
      generalize hH5 : L2.upd H4 D (.lst (vs ++ [v])) = H5 at p5 e5
      have hl5 : H5 D = some (.lst (vs ++ [v])) := by
        rw [← hH5]
        exact upd_same
      have lv5 := Paired.length p5
      refine q_when (tb e5 rfl) (fun hb H6 e6 => ?_) (fun hb H6 e6 => ?_)
      · refine s_appP (R := isRule K n [⟨[.same .own .base], .take⟩]) (e6 _ _ hl5) (ev_var rfl) (rule (e5.trans e6) rfl (by decide) (one (okS hb)) (row (r := ⟨[.same .own .base], .take⟩) rfl (ed_c dS))) (by rw [lv5]; decide) fun v2 H7 e7 hv2 => ?_
        have hl7 := e7 _ _ (e6 _ _ hl5)
        have eU2 : ExT H7 (L2.upd H7 D (.lst ((vs ++ [v]) ++ [v2]))) := ExT.upd (ExT.refl _) hl7 fun z => z
        have p8 := paired_app (stR _ _ _ _ ((tOf (e6.trans e7)).trans eU2) p5) (.cons (stb_isRule K n _ _ _ _ eU2 hv2) .nil)
        refine s_ret (ev_var rfl) fun H9 e9 => fin (Ex.mut ((e5.trans e6).trans e7) hD0) upd_same p8 ?_ H9 e9
        unfold rulesFor
        rw [hm, hb]
        rfl
      · refine s_ret (ev_var rfl) fun H9 e9 => fin e5 hl5 p5 ?_ H9 (e6.trans e9)
        unfold rulesFor
        rw [hm, hb]
        rfl
    · refine q_when (tb (e1'.trans e3) rfl) (fun hb H6 e6 => ?_) (fun hb H6 e6 => ?_)
      · refine s_appP (R := isRule K n [⟨[.same .own .base], .take⟩]) (e6 _ _ (e3 _ _ hl2)) (ev_var rfl) (rule ((e1'.trans e3).trans e6) rfl (by decide) (one (okS hb)) (row (r := ⟨[.same .own .base], .take⟩) rfl (ed_c dS))) (by rw [lv]; decide) fun v2 H7 e7 hv2 => ?_
        have hl7 := e7 _ _ (e6 _ _ (e3 _ _ hl2))
        have eU2 : ExT H7 (L2.upd H7 D (.lst (vs ++ [v2]))) := ExT.upd (ExT.refl _) hl7 fun z => z
        have p8 := paired_app (stR _ _ _ _ ((tOf ((e3.trans e6).trans e7)).trans eU2) r') (.cons (stb_isRule K n _ _ _ _ eU2 hv2) .nil)
        refine s_ret (ev_var rfl) fun H9 e9 => fin (Ex.mut (((e1'.trans e3).trans e6).trans e7) hD0) upd_same p8 ?_ H9 e9
        unfold rulesFor
        rw [hm, hb]
        rfl
      · refine s_ret (ev_var rfl) fun H9 e9 => fin e1' hl2 r' ?_ H9 ((e3.trans e6).trans e9)
        unfold rulesFor
        rw [hm, hb]
        rfl
end
end Ci

set_option Elab.async false
set_option linter.all false
set_option maxRecDepth 100000
set_option maxHeartbeats 4000000
/-! Helpers for what follows. -/
namespace Ci
open PySem PySem.Spec PyProof.Rows L2 Evl
open C8 (Cal Met Mak pe_c pe_mk pe_mt pe_mt0 pe_gc)
def nsP (p : Prop) : Pr := fun v _ => (v = .non ∧ ¬ p) ∨ ((∃ a, v = .ref a) ∧ p)
theorem ns_test {p : Prop} {b : Bool} (hb : b = true ↔ p) {v : V} {H : Hp} (h : nsP p v H) : (!decide (v = .non)) = b := by
  rcases h with ⟨rfl, h⟩ | ⟨⟨a, rfl⟩, h⟩
  · cases b with
    | true => exact absurd (hb.mp rfl) h
    | false => rfl
  · rw [hb.mpr h]
    rfl
theorem ns_testN {p : Prop} {b : Bool} (hb : b = true ↔ ¬ p) {v : V} {H : Hp} (h : nsP p v H) : decide (v = .non) = b := by
  rcases h with ⟨rfl, h⟩ | ⟨⟨a, rfl⟩, h⟩
  · rw [hb.mpr h]
    rfl
  · cases b with
    | true => exact absurd h (hb.mp rfl)
    | false => rfl
theorem some_bool (p : Prop) : ∃ b : Bool, b = true ↔ p := by
  by_cases h : p
  · exact ⟨true, ⟨fun _ => h, fun _ => rfl⟩⟩
  · exact ⟨false, ⟨fun z => (by cases z), fun z => absurd z h⟩⟩
section
variable {P : Program} {w : World} {K : PySem.W.Frag} {mg : Str → Option Value} {base : Heap}
section
variable {σ : L2.St} {H : Hp} {ta tb tc td : TE} {E : XK} {r q : Addr} {wv hv : V} {notes notes2 : List Str} {rows rows2 : Rl} {ws : List Word} {h : Hist} {b : Bool}
theorem ev_words (nd : ws.Nodup) (dW : Dp K H wv (wsD ws)) (ha : Ev ta σ H wv) : Ev (tCall (spWordsOf K) [] E (tCons ta tNil)) σ H wv :=
  ev_call (ea_cons ha ea_nil) fun H1 e Q k E => ⟨wv, ws, rfl, .inl ⟨nd, dpT (tOf e) _ _ (noL_ws ws) dW, fun H2 e2 => k H2 e2⟩⟩
theorem et_isNP {R : Pr} {b : Bool} (ha : EvP ta σ H R) (hR : ∀ v H1, R v H1 → decide (v = .non) = b) : EvT (tTest (tOp (fun x y H Q => y = .non ∧ Q (.bl (decide (x = .non))) H) ta (tC .non))) σ H b := fun H1 e1 Q q =>
  ha H1 e1 _ fun v H2 e2 r => ⟨rfl, _, rfl, by rw [hR v H2 r]; exact q H2 e2⟩
theorem ev_isNP {R : Pr} {b : Bool} (ha : EvP ta σ H R) (hR : ∀ v H1, R v H1 → decide (v = .non) = b) : Ev (tOp (fun x y H Q => y = .non ∧ Q (.bl (decide (x = .non))) H) ta (tC .non)) σ H (.bl b) := fun H1 e1 Q q =>
  ha H1 e1 _ fun v H2 e2 r => ⟨rfl, by rw [hR v H2 r]; exact q H2 e2⟩
/-- the carry event -/
theorem ep_carryE (ha : Ev ta σ H (.str (ansS b))) : EvP (tTup (tCons (tC (.str "carry")) (tCons ta tNil))) σ H (isD K (evD (.carry b))) :=
  ed_tup rfl (ed_cons rfl (ed_str "carry") (ed_cons rfl (ed_v ha rfl (.str _)) ed_nil)) (by show 2 ≤ 1000; decide)
theorem ep_with {e : Evt} (ha : EvP ta σ H (isD K (histD h))) (hb : EvP tb σ H (isD K (evD e))) (hl : h.2.length ≤ 6000000) : EvP (tCall (spWithEvent K) [] E (tCons ta (tCons tb tNil))) σ H (isD K (histD (h.1, h.2 ++ [e]))) :=
  ep_callA (eas_cons ha (stb_isD K (noL_hist h)).s (eas_cons hb (stb_isD K (noL_ev e)).s eas_nil)) fun vs H1 e1 ⟨v1, r1, h1, g1, v2, r2, h2, g2, h3⟩ => by
    subst h1 h2 h3
    exact fun H2 e2 Q k E => ⟨v1, v2, h, e, rfl, dpT (tOf e2) _ _ (noL_hist h) g1, dpT (tOf e2) _ _ (noL_ev e) g2, hl, k⟩
/-- state.carried(rule, answer).here -/
theorem ep_fldH {s : St} (T : Txt K mg) (ha : EvP ta σ H (isSt K s)) : Ev (tFld K ta "here") σ H (vo s.here) := fun H1 e1 Q q =>
  ha H1 e1 _ fun v H2 e2 ⟨p, ev, S⟩ => by
    subst ev
    exact (ev_here T S (ta := tC (.ref p)) (σ := σ) ev_c) H2 (Ex.refl _) Q fun H3 e3 => q H3 (e2.trans e3)
theorem hist_ref {v : V} {h : Hist} (hd : Dp K H v (histD h)) : ∃ a, v = .ref a := by
  obtain ⟨a, xs, e, _⟩ := dp_tup hd
  exact ⟨a, e⟩
end
theorem ep_faultsBy {σ : L2.St} {H : Hp} {ta tb td : TE} {E : XK} {r : Addr} {wv : V} {y : Way} {notes : List Str} {rows : Rl} {ws : List Word} (Rr : RlAt K H r notes rows) (nd : ws.Nodup) (dW : Dp K H wv (wsD ws)) (ha : Ev ta σ H (.ref r)) (hb : Ev tb σ H (.str (wayS y))) (hd : Ev td σ H wv) : EvP (tCall (spFaultsBy K) [] E (tCons ta (tCons tb (tCons td tNil)))) σ H (fsP rows ws y) :=
  ep_call (ea_cons ha (ea_cons hb (ea_cons hd ea_nil))) fun H1 e Q k E => ⟨r, y, wv, notes, rows, ws, rfl, Rr.x e, nd, dpT (tOf e) _ _ (noL_ws ws) dW, k⟩
end
end Ci

set_option Elab.async false
set_option linter.all false
set_option maxRecDepth 100000
set_option maxHeartbeats 4000000
/-! right_rule_by, fewest_notes. -/
namespace Ci
open PySem PySem.Spec PyProof.Rows L2 Evl
open C8 (Cal Met Mak pe_c pe_mk pe_mt pe_mt0 pe_gc)
def RightN (n : Nts) (ws : List Word) (y : Way) : Prop := ∃ rows ∈ rulesFor n, ∀ f, ¬ Faulty rows ws y f
def allN : List Nts := [⟨false, false⟩, ⟨true, false⟩, ⟨false, true⟩, ⟨true, true⟩]
def sizeN (n : Nts) : Nat := (ntsS n).length
theorem eqv_nil (ds : List PyData) : PyData.eqv (.list ds) (.list []) = ds.isEmpty := by
  cases ds <;> simp [PyData.eqv, PyData.eqvAll]
section
variable {P : Program} {w : World} {K : PySem.W.Frag} {mg : Str → Option Value} {base : Heap}
def rrP (K : PySem.W.Frag) (n : Nts) (ws : List Word) (y : Way) : Pr := fun v H => (v = .non ∧ ¬ RightN n ws y) ∨ ∃ rows ∈ rulesFor n, isRule K n rows v H ∧ ∀ f, ¬ Faulty rows ws y f
theorem et_fsNil {σ : L2.St} {H : Hp} {ta : TE} {rows : Rl} {ws : List Word} {y : Way} {b : Bool} (hb : b = true ↔ ∀ f, ¬ Faulty rows ws y f) (ha : EvP ta σ H (fsP rows ws y)) : EvT (tTest (tOp (rEqD K) ta (tLst tNil))) σ H b := fun H1 e1 Q q =>
  ha H1 e1 _ fun v H2 e2 ⟨g, ⟨p, ys, ev, hp, hq⟩, hg⟩ => ⟨sz_of (by decide), fun l hl => by
    subst ev
    have en : Ex H2 (L2.upd H2 l (.lst [])) := Ex.new hl
    have hd : DpAll K (L2.upd H2 l (.lst [])) ys (([Flt.lost, Flt.missed].filter g).map fun f => PyData.str (fltS f)) := dps_of (f := fun f => PyData.str (fltS f)) (Paired.mapP hq fun x f (z : x = .str (fltS f)) => by
      show Dp K _ x _
      rw [z]
      exact .str _)
    refine ⟨_, _, .lst (SqL.of (en _ _ hp)) hd, .lst (SqL.of upd_same) .nil, ?_, by decide +kernel, _, rfl, ?_⟩
    · cases h1 : g .lost <;> cases h2 : g .missed <;> simp only [List.filter_cons, List.filter_nil, h1, h2] <;> decide +kernel
    · have e : PyData.eqv (.list (([Flt.lost, Flt.missed].filter g).map fun f => PyData.str (fltS f))) (.list []) = b := by
        rw [eqv_nil]
        cases h1 : g .lost with
        | true =>
          have : b = false := by
            cases b with
            | false => rfl
            | true => exact absurd ((hg .lost).mp h1) (hb.mp rfl .lost)
          rw [this, List.filter_cons, h1]
          rfl
        | false =>
          cases h2 : g .missed with
          | true =>
            have : b = false := by
              cases b with
              | false => rfl
              | true => exact absurd ((hg .missed).mp h2) (hb.mp rfl .missed)
            rw [this, List.filter_cons, List.filter_cons, h1, h2]
            rfl
          | false =>
            have : b = true := hb.mpr fun f hf => by
              have := (hg f).mpr hf
              cases f
              · rw [h1] at this
                cases this
              · rw [h2] at this
                cases this
            rw [this, List.filter_cons, List.filter_cons, h1, h2]
            rfl
      rw [e]
      exact q _ (e2.trans en)⟩
def spRightBy (K : PySem.W.Frag) : Sp := fun vs H Q _ => ∃ nv y wv n ws, vs = [nv, .str (wayS y), wv] ∧ Dp K H nv (strsD (ntsS n)) ∧ ws.Nodup ∧ Dp K H wv (wsD ws) ∧ RetP (rrP K n ws y) H Q
theorem cal_right_rule_by (T : Txt K mg) : Cal P w K mg base 11 "right_rule_by" (spRightBy K) [] := by
  obtain ⟨fd, F⟩ := T.f_right_rule_by
  refine calD F T.g_right_rule_by (F.bindsN fun _ _ _ _ _ _ us hl => match us, hl with | [_, _, _], _ => rfl) sc_right_rule_by (fun vs H Q E h => ?_) (fun cdv A outer s H vs Q E hr h => ?_)
  · obtain ⟨nv, y, wv, n, ws, rfl, _⟩ := h
    rfl
  · obtain ⟨nv, y, wv, n, ws, rfl, hN, nd, dW, k⟩ := h
    refine ⟨_, (pss_cons (ps_for PassesOwn.never rfl (pi_list (pe_c (cal_rules_with T) hr (by decide) rfl (pa_cons (pv 0) pa_nil))) (pg_name (i := 3) sc_right_rule_by.nd rfl (Or.inl rfl))
        (pss_one (ps_if (ptc (kEqD K hr) (pe_c (cal_faults_by T) hr (by decide) rfl (pa_cons (pv 3) (pa_cons (pv 1) (pa_cons (pv 2) pa_nil)))) (pe_lst pa_nil))
          (pss_one (ps_ret (pv 3)))
          pss_nil)))
      (pss_one (ps_ret pe_non))), ?_⟩
    refine (s_forX (ep_call (sp := spRulesWith K) (R := LsP (isRule K n) (rulesFor n)) (ea_cons (ev_var rfl) ea_nil) fun H1 e Q k E => ⟨nv, n, rfl, dpT (tOf e) _ _ (noL_strs _) hN, k⟩) fun v H1 e1 hes => ?_)
    refine s_forI (it_ls (stb_isRule K n) hes) (fun H2 i σ' H' => Ex H2 H' ∧ (∀ (j : Nat) rows, j < i → (rulesFor n)[j]? = some rows → ¬ ∀ f, ¬ Faulty rows ws y f) ∧ ∃ u3, σ' = [some nv, some (.str (wayS y)), some wv, u3]) (fun H2 e2 => ⟨Ex.refl _, fun j x h => absurd h (Nat.not_lt_zero j), none, rfl⟩) (fun H2 i σ' H' h => h.1) ?_ ?_
    · rintro H2 i rows xv σ' Ha Hb e2 hx ⟨ea, hno, u3, rfl⟩ eab ⟨r, rfl, Rr⟩
      have eHb := (e1.trans e2).trans (ea.trans eab)
      obtain ⟨b, hb⟩ := some_bool (∀ f, ¬ Faulty rows ws y f)
      refine s_when (et_fsNil hb (ep_faultsBy Rr nd (dpT (tOf eHb) _ _ (noL_ws ws) dW) (ev_var rfl) (ev_var rfl) (ev_var rfl))) (fun hin H5 e5 => ?_) (fun hin H5 e5 => ?_)
      · refine s_ret (ev_var rfl) fun H6 e6 => k _ H6 ((eHb.trans e5).trans e6) (.inr ⟨rows, List.mem_of_getElem? hx, ⟨r, rfl, Rr.x (e5.trans e6)⟩, hb.mp hin⟩)
      · refine ⟨(ea.trans eab).trans e5, fun j z hj hz => ?_, _, rfl⟩
        by_cases hji : j < i
        · exact hno j z hji hz
        · obtain rfl : j = i := by omega
          rw [hx] at hz
          cases hz
          intro h
          rw [hb.mpr h] at hin
          cases hin
    · rintro H2 σ' H' e2 ⟨ea, hno, u3, rfl⟩
      show tRet (tC .non) { nx := fun _ H' => Q .non H', rt := Q } [some nv, some (.str (wayS y)), some wv, u3] H'
      refine s_ret ev_c fun H3 e3 => ?_
      refine k _ _ (((e1.trans e2).trans ea).trans e3) (.inl ⟨rfl, fun ⟨rows, hm, hf⟩ => ?_⟩)
      obtain ⟨j, hj, ej⟩ := List.getElem_of_mem hm
      exact hno j rows hj (by rw [List.getElem?_eq_getElem hj, ej]) hf
def ntP (K : PySem.W.Frag) : Nts → Pr := fun n => isD K (strsD (ntsS n))
def fnP (K : PySem.W.Frag) (ws : List Word) (y : Way) : Pr := fun v H => ∃ g : Nts → Bool, (∀ n, g n = true ↔ RightN n ws y) ∧ ((∃ m, LsP (ntP K) ((allN.filter fun n => decide (sizeN n = m)).filter g) v H ∧ ((allN.filter fun n => decide (sizeN n = m)).filter g) ≠ [] ∧ ∀ n, sizeN n < m → g n = false) ∨ (∀ n, g n = false))
theorem lay_nt (n : Nts) : PyData.canLay0 (strsD (ntsS n)) = true ∧ PyData.depth (strsD (ntsS n)) ≤ 3 := by
  obtain ⟨a, b⟩ := n
  cases a <;> cases b <;> exact ⟨by decide +kernel, by decide +kernel⟩
theorem lay_nts (l : List Nts) : PyData.canLayAll0 (l.map fun n => strsD (ntsS n)) = true ∧ PyData.depthAll (l.map fun n => strsD (ntsS n)) ≤ 3 := by
  induction l with
  | nil => exact ⟨rfl, by decide +kernel⟩
  | cons n l ih =>
    constructor
    · simp only [List.map_cons, PyData.canLayAll0, (lay_nt n).1, ih.1, Bool.and_self]
    · simp only [List.map_cons, PyData.depthAll]
      exact Nat.max_le.mpr ⟨(lay_nt n).2, ih.2⟩
theorem sh_nts (l : List Nts) : SeqAt.shaped (.list (l.map fun n => strsD (ntsS n))) = true := by
  unfold SeqAt.shaped
  have h := lay_nts l
  simp only [PyData.canLay0, h.1, Bool.true_and]
  refine decide_eq_true ?_
  simp only [PyData.depth]
  omega
theorem et_ntNil {σ : L2.St} {H : Hp} {ta : TE} {l : List Nts} (ha : EvP ta σ H (LsP (ntP K) l)) : EvT (tTest (tOp (rNeD K) ta (tLst tNil))) σ H (!l.isEmpty) := fun H1 e1 Q q =>
  ha H1 e1 _ fun v H2 e2 ⟨p, ys, ev, hp, hq⟩ => ⟨sz_of (by decide), fun l2 hl2 => by
    subst ev
    have en : Ex H2 (L2.upd H2 l2 (.lst [])) := Ex.new hl2
    have hd : DpAll K (L2.upd H2 l2 (.lst [])) ys (l.map fun n => strsD (ntsS n)) := dps_of (f := fun n => strsD (ntsS n)) (Paired.mapP hq fun x f z => stb_isD K (noL_strs _) _ _ _ (tOf en) z)
    refine ⟨_, _, .lst (SqL.of (en _ _ hp)) hd, .lst (SqL.of upd_same) .nil, sh_nts l, by decide +kernel, _, rfl, ?_⟩
    have e : (!PyData.eqv (.list (l.map fun n => strsD (ntsS n))) (.list [])) = !l.isEmpty := by
      rw [eqv_nil]
      cases l <;> rfl
    rw [e]
    exact q _ (e2.trans en)⟩
theorem size_lt (n : Nts) : sizeN n < 3 := by
  obtain ⟨a, b⟩ := n
  cases a <;> cases b <;> decide
theorem all_mem (n : Nts) : n ∈ allN := by
  obtain ⟨a, b⟩ := n
  cases a <;> cases b <;> decide
theorem et_notN2 {σ : L2.St} {H : Hp} {ta : TE} {n : Nts} {ws : List Word} {y : Way} {b : Bool} (hb : b = true ↔ RightN n ws y) (ha : EvP ta σ H (rrP K n ws y)) : EvT (tTest (tOp (fun x y H Q => y = .non ∧ Q (.bl (!decide (x = .non))) H) ta (tC .non))) σ H b :=
  et_notN ha fun v H1 h => by
    rcases h with ⟨rfl, h⟩ | ⟨rows, hm, ⟨r, rfl, _⟩, hf⟩
    · cases b with
      | true => exact absurd (hb.mp rfl) h
      | false => rfl
    · rw [hb.mpr ⟨rows, hm, hf⟩]
      rfl
theorem kal_fewest_notes (T : Txt K mg) : Kal P w K mg base 12 "fewest_notes" (fun vs H Q _ => ∃ y wv ws, vs = [.str (wayS y), wv] ∧ ws.Nodup ∧ Dp K H wv (wsD ws) ∧ RetP (fnP K ws y) H Q) 1 ["events"] := by
  obtain ⟨fd, F⟩ := T.f_fewest_notes
  refine kalD F T.g_fewest_notes (fun _ _ _ _ _ _ us ws l1 l2 => match us, ws, l1, l2 with | [_], [_], _, _ => rfl) sc_fewest_notes (fun vs H Q E h => ?_) (fun cdv A outer s H vs Q E hr h => ?_)
  · obtain ⟨y, wv, ws, rfl, _⟩ := h
    rfl
  · obtain ⟨y, wv, ws, rfl, nd, dW, k⟩ := h
    obtain ⟨al, g_ALL_NOTES, dN⟩ := T.c_ALL_NOTES
    refine ⟨_, (pss_cons (ps_set (i := 2) sc_fewest_notes.nd rfl (Or.inr rfl) (pe_c (cal_words_of T) hr (by decide) rfl (pa_cons (pv 1) pa_nil)))
      (pss_cons (ps_for PassesOwn.never rfl (pi_range1 (by rfl) T.z_range (pa_cons pe_int pa_nil)) (pg_name (i := 3) sc_fewest_notes.nd rfl (Or.inr rfl))
        (pss_cons (ps_setLcT (i := 4) (own := [("notes", 6)]) (by rfl) sc_fewest_notes.nd rfl rfl (sw_true rfl rfl rfl (by decide +kernel)) (pi_tup (pe_gc rfl g_ALL_NOTES)) (blkOk_by (own := [("notes", 6)]) (N := n_fewest_notes) (sc := defScope s_fewest_notes) (by decide +kernel)) (fun _ _ _ _ _ => (pg_name (i := 6) sc_fewest_notes.nd rfl (Or.inl rfl))) (fun _ _ _ _ _ => (ptc op_eq (pe_callB (kLen K) (by rfl) T.z_len PySem.boot_len (pa_cons (pv 6) pa_nil)) (pv 3))) (fun _ _ _ _ _ => (pv 6)))
        (pss_cons (ps_setLcT (i := 5) (own := [("notes", 6)]) (by rfl) sc_fewest_notes.nd rfl rfl (sw_true rfl rfl rfl (by decide +kernel)) (pi_list (pv 4)) (blkOk_by (own := [("notes", 6)]) (N := n_fewest_notes) (sc := defScope s_fewest_notes) (by decide +kernel)) (fun _ _ _ _ _ => (pg_name (i := 6) sc_fewest_notes.nd rfl (Or.inl rfl))) (fun _ _ _ _ _ => (ptc op_notN (pe_c (cal_right_rule_by T) hr (by decide) rfl (pa_cons (pv 6) (pa_cons (pv 0) (pa_cons (pv 2) pa_nil)))) pe_non)) (fun _ _ _ _ _ => (pv 6)))
        (pss_one (ps_if (ptc (kNeD K hr) (pv 5) (pe_lst pa_nil))
          (pss_one (ps_ret (pv 5)))
          pss_nil)))))
      (pss_one (ps_ret (pe_lst pa_nil))))), ?_⟩
    obtain ⟨g, hg⟩ : ∃ g : Nts → Bool, ∀ n, g n = true ↔ RightN n ws y := ⟨fun n => Classical.choose (some_bool (RightN n ws y)), fun n => Classical.choose_spec (some_bool (RightN n ws y))⟩
    have dN' : ∀ H, Dp K H (.ref al) (.tuple (allN.map fun n => strsD (ntsS n))) := dN
    refine q_asg (ev_words nd dW (ev_var rfl)) fun H1 e1 => ?_
    refine s_forI (it_range (n := 3) (ea_cons ev_c ea_nil) (by decide)) (fun H2 i σ' H' => Ex H2 H' ∧ (∀ n, sizeN n < i → g n = false) ∧ ∃ u3 u4 u5 u6, σ' = [some (.str (wayS y)), some wv, some wv, u3, u4, u5, u6]) (fun H2 e2 => ⟨Ex.refl _, fun n h => absurd h (Nat.not_lt_zero _), none, none, none, none, rfl⟩) (fun H2 i σ' H' h => h.1) ?_ ?_
    · rintro H2 i m xv σ' Ha Hb e2 hx ⟨ea, hno, u3, u4, u5, u6, rfl⟩ eab rfl
      have him : m = i := by
        obtain ⟨h1, h2⟩ := List.getElem?_eq_some_iff.mp hx
        rw [List.getElem_range] at h2
        exact h2.symm
      subst him
      have eHb := (e1.trans e2).trans (ea.trans eab)
      obtain ⟨al2, axs, ea2, hax, had⟩ := dp_tup (dN' Hb)
      cases ea2
      refine qp_asg (ep_comp (R := ntP K) allN (fun n => decide (sizeN n = m)) (fun n => n) (fun n v H' => Dp K H' v (strsD (ntsS n))) (fun n σ2 H' => ∃ v, σ2[6]? = some (some v) ∧ σ2[3]? = some (some (.int (m : Nat))) ∧ Dp K H' v (strsD (ntsS n))) (it_tup ev_c hax (Paired.mapP (dps_paired (fun n => strsD (ntsS n)) (fun n => noL_strs _) had) fun _ _ h H3 e3 => h H3 (tOf e3))) ?_ ?_ ?_ ?_ (by decide)) fun v4 H4 e4 ⟨p4, y4, ev4, hp4, hq4⟩ => ?_
      · rintro n v H3 _ _ D Kt kt
        exact kt _ rfl ⟨v, rfl, rfl, D⟩
      · rintro n σ2 H3 _ _ ⟨v, h6, h3, D⟩
        obtain ⟨x, rfl, hx⟩ := dp_strs D
        refine et_is (et_test (ev_eqi (ev_lenT (ev_var h6) hx) (ev_var h3) rfl)) ?_
        rw [List.length_map]
        show decide (((ntsS n).length : Int) = (m : Int)) = decide ((ntsS n).length = m)
        by_cases z : (ntsS n).length = m
        · rw [decide_eq_true z, decide_eq_true (by omega)]
        · rw [decide_eq_false z, decide_eq_false (by omega)]
      · rintro n σ2 H3 _ _ ⟨v, h6, h3, D⟩ _
        exact ed_v (ev_var h6) (noL_strs _) D
      · exact fun n => stb_isD K (noL_strs _)
      subst ev4
      rw [List.map_id'] at hq4
      have eH4 := eHb.trans e4
      have dW4 := dpT (tOf eH4) _ _ (noL_ws ws) dW
      refine qp_asg (ep_comp (R := ntP K) (allN.filter fun n => decide (sizeN n = m)) g (fun n => n) (fun n v H' => Dp K H' v (strsD (ntsS n))) (fun n σ2 H' => ∃ v, σ2[6]? = some (some v) ∧ σ2[0]? = some (some (.str (wayS y))) ∧ σ2[2]? = some (some wv) ∧ Dp K H' v (strsD (ntsS n))) (it_list (K := K) (ev_var rfl) (SqL.of hp4) (Paired.mapP hq4 fun _ _ z H3 e3 => stb_isD K (noL_strs _) _ _ _ (tOf e3) z)) ?_ ?_ ?_ ?_ ?_) fun v5 H5 e5 h5 => ?_
      · rintro n v H3 _ _ D Kt kt
        exact kt _ rfl ⟨v, rfl, rfl, rfl, D⟩
      · rintro n σ2 H3 _ e3 ⟨v, h6, h0, h2, D⟩
        exact et_notN2 (hg n) (ep_call (sp := spRightBy K) (ea_cons (ev_var h6) (ea_cons (ev_var h0) (ea_cons (ev_var h2) ea_nil))) fun H6 e6 Q k E => ⟨v, y, wv, n, ws, rfl, dpT (tOf e6) _ _ (noL_strs _) D, nd, dpT (tOf (e3.trans e6)) _ _ (noL_ws ws) dW4, k⟩)
      · rintro n σ2 H3 _ _ ⟨v, h6, h0, h2, D⟩ _
        exact ed_v (ev_var h6) (noL_strs _) D
      · exact fun n => stb_isD K (noL_strs _)
      · exact Nat.le_trans (List.length_filter_le _ _) (by decide)
      rw [List.map_id'] at h5
      have eH5 := eH4.trans e5
      obtain ⟨p5, y5, ev5, hp5, hq5⟩ := h5
      subst ev5
      refine s_when (et_ntNil (K := K) (l := (allN.filter fun n => decide (sizeN n = m)).filter g) (ep_of (ev_var rfl) fun H6 e6 => ⟨p5, y5, rfl, e6 _ _ hp5, Paired.mapP hq5 fun _ _ z => stb_isD K (noL_strs _) _ _ _ (tOf e6) z⟩)) (fun hin H6 e6 => ?_) (fun hin H6 e6 => ?_)
      · refine s_ret (ev_var rfl) fun H7 e7 => k _ H7 ((eH5.trans e6).trans e7) ⟨g, hg, .inl ⟨m, ⟨p5, y5, rfl, (e6.trans e7) _ _ hp5, Paired.mapP hq5 fun _ _ z => stb_isD K (noL_strs _) _ _ _ (tOf (e6.trans e7)) z⟩, ?_, hno⟩⟩
        intro z
        rw [z] at hin
        cases hin
      · refine ⟨(((ea.trans eab).trans e4).trans e5).trans e6, fun n hn => ?_, _, _, _, _, rfl⟩
        by_cases hlt : sizeN n < m
        · exact hno n hlt
        · have hsz : sizeN n = m := by omega
          cases hgn : g n with
          | false => rfl
          | true =>
            have hmem : n ∈ (allN.filter fun n => decide (sizeN n = m)).filter g := List.mem_filter.mpr ⟨List.mem_filter.mpr ⟨all_mem n, decide_eq_true hsz⟩, hgn⟩
            have he : ((allN.filter fun n => decide (sizeN n = m)).filter g) = [] := by
              cases hl : (allN.filter fun n => decide (sizeN n = m)).filter g with
              | nil => rfl
              | cons a b =>
                rw [hl] at hin
                cases hin
            rw [he] at hmem
            cases hmem
    · rintro H2 σ' H' e2 ⟨ea, hno, u3, u4, u5, u6, rfl⟩
      show tRet (tLst tNil) { nx := fun _ H' => Q .non H', rt := Q } [some (.str (wayS y)), some wv, some wv, u3, u4, u5, u6] H'
      refine ⟨sz_of (by decide), fun p hp => k _ _ (((e1.trans e2).trans ea).trans (Ex.new hp)) ⟨g, hg, .inr fun n => hno n (size_lt n)⟩⟩
end
end Ci

set_option Elab.async false
set_option linter.all false
set_option maxRecDepth 100000
set_option maxHeartbeats 4000000
/-! InvalidRule(..), are_notes, right_rule, _law_refused. -/
namespace Ci
open PySem PySem.Spec PyProof.Rows L2 Evl
open C8 (Cal Met Mak pe_c pe_mk pe_mt pe_mt0 pe_gc)
/-! ### general forms -/
section
variable {P : Program} {w : World} {K : PySem.W.Frag} {mg : Str → Option Value} {base : Heap}
theorem fn_calm {k : Nat} {f : Addr} {fd : FuncData} {ps : List Str} {sp : Sp} (F : FnOk P w K mg base (L2.CX P w) k f fd ps sp) : FnOk P w K mg base C8.CX0 k f fd ps (fun vs H Q _ => sp vs H Q C8.E0) :=
  ⟨fun vs H Q _ h => F.len vs H Q _ h, fun A outer s H args us vs Q E hr e0 hb r h => codeAny_mono (F.run A outer s H args us vs Q C8.E0 hr e0 hb r h) fun z s' hq => by
    cases z with
    | error e =>
      obtain ⟨_, _, _, _, _, _, _, _, _, _, _, _, no⟩ := hq
      exact no.elim
    | ok fl => cases fl <;> exact hq⟩
end
/-- f(e, ..) in a try: the written arguments, then the defaults -/
def tCallD (sp : Sp) (E : L2.St → XK) (dvs : List V) (t : TA) : TE := fun σ H Q => t σ H fun vs H1 => sp (vs ++ dvs) H1 Q (E σ)
section
variable {X : Cx} {CX : CXT} {k : Nat} {f : Addr} {fd : FuncData} {ps : List Str} {sp : Sp} {E : L2.St → XK} {x : Str} {p pos : Pos} {e : Expr} {es : List Expr} {t : TA} {dvs : List V} {ds : List Value}
theorem pe_callD (F : FnOk X.prog X.w X.K X.mg X.base CX k f fd ps sp) (hr : Room k X.A) (hg : Gl X x) (hm : X.mg x = some (.ref f)) (hk : PySem.W.keepIn X.K (.ref f) = true) (hb : Binds X.K fd ps ds) (hd : Vals dvs ds) (hx : ∀ σ, PassesAt CX X σ (E σ)) (ha : PA X (e :: es) t)
    (hdb : (x == ("__debug__" : Str)) = false := by decide) (he : starEach (e :: es) X.env = (false, eval e X.env) :: starEach es X.env := by rfl) (hpl : (backTo pos (starEach es X.env)).any (·.1) = false := by rfl) :
    PE X (.Call (.Name x p) (e :: es) [] pos) (tCallD sp E dvs t) := by
  refine ⟨fun pins s σ H Q I h => wpAny_Call_Name_kw (ld_glob I hg hm (PySem.W.callWith_K (h₀ := X.base) I.ok.mod.kin hk (thn (ha.run pos pins s σ H _ I h) fun us s1 ⟨vs, H1, I1, r, q⟩ => ⟨I1.kIn, ?_⟩) he hpl) hdb)⟩
  have rr : Vals (vs ++ dvs) (us ++ ds) := r.append hd
  refine wpAny_call (codeAny_mono (F.run X.A X.stack s1 H1 ⟨us, []⟩ (us ++ ds) (vs ++ dvs) Q (E σ) hr I1.env0 (hb s1 us I1.kIn (by rw [← rr.length]; exact F.len _ _ _ _ q)) rr q) fun z s' hq => ?_)
  cases z with
  | error er => exact hx σ pins H1 s1 er s' I1 hq
  | ok fl => cases fl <;> first | (exact I1.after hq) | (exact False.elim hq)
end
section
variable {K : PySem.W.Frag} {σ : L2.St} {H : Hp} {ta tb : TE}
theorem ev_isB {v : V} {a b : String} {r : Bool} (ha : Ev ta σ H v) (hb : Ev tb σ H (.ty b)) (ht : ∀ H1, Ex H H1 → TyX K H1 v (.type a)) (hk : kitB a b = some r) : Ev (tCB (rIsi K) (tCons ta (tCons tb tNil))) σ H (.bl r) := fun H1 e1 Q q =>
  ha H1 e1 _ fun H2 e2 => hb H2 (e1.trans e2) _ fun H3 e3 => ⟨_, _, _, _, r, rfl, .ty b, ht H3 ((e1.trans e2).trans e3), kit_ty hk, q H3 (e2.trans e3)⟩
end
/-- no notes -/
def BadN (K : PySem.W.Frag) (H : Hp) (v : V) : Prop := v = .non ∨ (∃ z, v = .str z) ∨ (∃ a xs, v = .ref a ∧ H a = some (.lst xs)) ∨ Dp K H v (strsD ["mine", "base"]) ∨ Dp K H v (strsD ["none"]) ∨ Dp K H v (.tuple [.int 5])
theorem BadN.x {K : PySem.W.Frag} {H H' : Hp} {v : V} (h : BadN K H v) (e : Ex H H') : BadN K H' v := by
  rcases h with h | h | ⟨a, xs, h1, h2⟩ | h | h | h
  · exact .inl h
  · exact .inr (.inl h)
  · exact .inr (.inr (.inl ⟨a, xs, h1, e _ _ h2⟩))
  · exact .inr (.inr (.inr (.inl (dpT (tOf e) _ _ (noL_strs _) h))))
  · exact .inr (.inr (.inr (.inr (.inl (dpT (tOf e) _ _ (noL_strs _) h)))))
  · exact .inr (.inr (.inr (.inr (.inr (dpT (tOf e) _ _ (by decide +kernel) h)))))
section
variable {P : Program} {w : World} {K : PySem.W.Frag} {mg : Str → Option Value} {base : Heap}
def spAreNotes2 (K : PySem.W.Frag) : Sp := fun vs H Q _ => ∃ v b, vs = [v] ∧ ((b = true ∧ ∃ n, Dp K H v (strsD (ntsS n))) ∨ (b = false ∧ BadN K H v)) ∧ RetV (.bl b) H Q
theorem cal_are_notes2 (T : Txt K mg) : Cal P w K mg base 1 "are_notes" (spAreNotes2 K) [] := by
  obtain ⟨fd, F⟩ := T.f_are_notes
  refine calD F T.g_are_notes (F.bindsN fun _ _ _ _ _ _ us hl => match us, hl with | [_], _ => rfl) sc_are_notes (fun vs H Q E h => ?_) (fun cdv A outer s H vs Q E hr h => ?_)
  · obtain ⟨v, b, rfl, _⟩ := h
    rfl
  · obtain ⟨v, b, rfl, hv, k⟩ := h
    obtain ⟨al, g_ALL_NOTES, dN⟩ := T.c_ALL_NOTES
    refine ⟨_, (pss_one (ps_ret (pe_and (pe_callB (kIsi K) (by rfl) T.z_isinstance (by decide +kernel) (pa_cons (pv 0) (pa_cons (kTy "tuple" rfl T.z_tuple (by decide +kernel)) pa_nil))) (pe_and (pe_callB (kAll K) (by rfl) T.z_all (by decide +kernel) (pa_cons (pe_lc (own := [("note", 1)]) (by rfl) sc_are_notes.nd (pi_tup (pv 0)) (blkOk_by (own := [("note", 1)]) (N := n_are_notes) (sc := defScope s_are_notes) (by decide +kernel)) (fun _ _ _ _ _ => (pg_name (i := 1) sc_are_notes.nd rfl (Or.inl rfl))) (fun _ _ _ _ _ => pts_nil) (fun _ _ _ _ _ => (pe_callB (kIsi K) (by rfl) T.z_isinstance (by decide +kernel) (pa_cons (pv 1) (pa_cons (kTy "str" rfl T.z_str (by decide +kernel)) pa_nil))))) pa_nil)) (pe_one (pec (kInT K hr) (pv 0) (pe_gc rfl g_ALL_NOTES))))))), ?_⟩
    have noTup : ∀ {a : String}, (∀ H1, Ex H H1 → TyX K H1 v (.type a)) → kitB a "tuple" = some false → b = false → tRet (tAndV (tCB (rIsi K) (tCons (tVar 0) (tCons (tC (.ty "tuple")) tNil))) (tAndV (tCB (rAll K) (tCons (tLc (iTup K (tVar 0)) (gName 1) tYes (tCB (rIsi K) (tCons (tVar 1) (tCons (tC (.ty "str")) tNil))) [1]) tNil)) (tOp (CiR.rInT K) (tVar 0) (tC (.ref al))))) { nx := fun _ H' => Q .non H', rt := Q } [some v, none] H := fun {a} ht hk hb => by
      subst hb
      exact s_ret (ev_is (ev_andV (a := false) (b := false) (ev_isB (ev_var rfl) ev_c ht hk) fun z => by cases z) rfl) fun H1 e1 => k H1 e1
    -- a tuple of data
    have tup : ∀ (ds : List PyData) (bs : List Bool), Dp K H v (.tuple ds) → noLs ds = true → ds.length ≤ 100 → (∀ (a : Addr) (xs : List V), SqT K H a xs → DpAll K H xs ds → EvP (tLc (iTup K (tC (.ref a))) (gName 1) tYes (tCB (rIsi K) (tCons (tVar 1) (tCons (tC (.ty "str")) tNil))) [1]) [some v, none] H (LsP (fun b => isV (.bl b)) bs)) →
        SeqAt.shaped (.tuple ds) = true → (bs.all id && (([.tuple [], .tuple [.str "base"], .tuple [.str "mine"], .tuple [.str "base", .str "mine"]] : List PyData).any fun z => PyData.eqv z (.tuple ds))) = b → tRet (tAndV (tCB (rIsi K) (tCons (tVar 0) (tCons (tC (.ty "tuple")) tNil))) (tAndV (tCB (rAll K) (tCons (tLc (iTup K (tVar 0)) (gName 1) tYes (tCB (rIsi K) (tCons (tVar 1) (tCons (tC (.ty "str")) tNil))) [1]) tNil)) (tOp (CiR.rInT K) (tVar 0) (tC (.ref al))))) { nx := fun _ H' => Q .non H', rt := Q } [some v, none] H := fun ds bs hD hn hf hl hs hb => by
      obtain ⟨a, xs, rfl, hx, hd⟩ := dp_tup hD
      have all : Ev (tCB (rAll K) (tCons (tLc (iTup K (tVar 0)) (gName 1) tYes (tCB (rIsi K) (tCons (tVar 1) (tCons (tC (.ty "str")) tNil))) [1]) tNil)) [some (.ref a), none] H (.bl (bs.all id)) := ev_allP fun H1 e1 Q1 q1 => ⟨.ref a, rfl, hl a xs hx hd H1 e1 Q1 q1⟩
      refine s_ret (ev_is (ev_andV (a := true) (ev_isTup (ev_var rfl) ev_c hx) fun _ => ev_andV all fun _ => ev_op (ev_var rfl) ev_c fun H1 e1 Q1 q1 => ⟨.tuple ds, _, dpT (tOf e1) _ _ (by rw [noL_tup]; exact hn) hD, dN H1, hs, by decide +kernel, q1 H1 (Ex.refl _)⟩) (congrArg V.bl ?_)) fun H1 e1 => k H1 e1
      exact hb
    have txts : ∀ (ss : List Str), Dp K H v (strsD ss) → ss.length ≤ 100 → SeqAt.shaped (strsD ss) = true → (([.tuple [], .tuple [.str "base"], .tuple [.str "mine"], .tuple [.str "base", .str "mine"]] : List PyData).any fun z => PyData.eqv z (strsD ss)) = b → tRet (tAndV (tCB (rIsi K) (tCons (tVar 0) (tCons (tC (.ty "tuple")) tNil))) (tAndV (tCB (rAll K) (tCons (tLc (iTup K (tVar 0)) (gName 1) tYes (tCB (rIsi K) (tCons (tVar 1) (tCons (tC (.ty "str")) tNil))) [1]) tNil)) (tOp (CiR.rInT K) (tVar 0) (tC (.ref al))))) { nx := fun _ H' => Q .non H', rt := Q } [some v, none] H := fun ss hD few hs hb => by
      refine tup (ss.map PyData.str) ((ss.filter fun _ => true).map fun _ => true) hD (noLs_str ss) (by rw [List.length_map]; exact few) (fun a xs hx hd => ?_) hs ?_
      · have hx' := dps_str hd
        subst hx'
        refine ep_comp (R := fun b => isV (.bl b)) ss (fun _ => true) (fun _ => true) (fun s v _ => v = .str s) (fun s σ2 _ => σ2[1]? = some (some (.str s))) (it_tup ev_c hx ?_) ?_ ?_ ?_ ?_ (Nat.le_trans few (by decide))
        · have go : ∀ (l : List Str), Paired (fun v y => ∀ H2, Ex H H2 → v = V.str y) (l.map V.str) l := fun l => by
            induction l with
            | nil => exact .nil
            | cons y l ih => exact .cons (fun _ _ => rfl) ih
          exact go _
        · rintro s v H1 _ _ rfl Kt kt
          exact kt _ rfl rfl
        · exact fun _ _ _ _ _ _ => ev_tYes
        · rintro s σ2 H1 _ _ h1 _
          exact ep_v (ev_isStr (ev_var h1) ev_c)
        · exact fun b _ _ _ _ h => h
      · rw [all_map, show (ss.all fun _ => true) = true from List.all_eq_true.mpr fun _ _ => rfl, Bool.true_and]
        exact hb
    rcases hv with ⟨hb, n, hD⟩ | ⟨hb, hB⟩
    · refine txts (ntsS n) hD ?_ ?_ ?_
      · obtain ⟨x, y⟩ := n
        cases x <;> cases y <;> decide
      · obtain ⟨x, y⟩ := n
        cases x <;> cases y <;> decide +kernel
      · rw [hb]
        obtain ⟨x, y⟩ := n
        cases x <;> cases y <;> decide +kernel
    · rcases hB with rfl | ⟨z, rfl⟩ | ⟨a, xs, rfl, ha⟩ | hD | hD | hD
      · exact noTup (fun _ _ => .base .non) (by decide +kernel) hb
      · exact noTup (fun _ _ => .base (.str z)) (by decide +kernel) hb
      · exact noTup (fun H1 e1 => .base (.lst (e1 _ _ ha))) (by decide +kernel) hb
      · exact txts _ hD (by decide) (by decide +kernel) (by rw [hb]; decide +kernel)
      · exact txts _ hD (by decide) (by decide +kernel) (by rw [hb]; decide +kernel)
      · refine tup [.int 5] [false] hD (by decide +kernel) (by decide) (fun a xs hx hd => ?_) (by decide +kernel) (by rw [hb]; rfl)
        have hx' : xs = [.int 5] := by
          cases hd with | cons q1 q2 =>
          cases q1
          cases q2
          rfl
        subst hx'
        refine ep_imp (ep_comp (R := fun b => isV (.bl b)) [(5 : Int)] (fun _ => true) (fun _ => false) (fun s v _ => v = .int s) (fun s σ2 _ => σ2[1]? = some (some (.int s))) (it_tup ev_c hx (.cons (fun _ _ => rfl) .nil)) ?_ ?_ ?_ ?_ (by decide)) fun v H1 _ h => h
        · rintro s v H1 _ _ rfl Kt kt
          exact kt _ rfl rfl
        · exact fun _ _ _ _ _ _ => ev_tYes
        · rintro s σ2 H1 _ _ h1 _
          exact ep_v (ev_isB (ev_var h1) ev_c (fun _ _ => .base (.int s)) (by decide +kernel))
        · exact fun b _ _ _ _ h => h
theorem ir_ok (T : Txt K mg) (hP : PgOk P) : ∃ fd, FnOk P w K mg base C8.CX0 1 (irF K) fd ["self", "index"] (CiX.spIr (irC K) "index") ∧ Binds K fd ["self", "index"] [] := by
  obtain ⟨cc, cda, fd, R⟩ := T.irOk hP
  refine ⟨fd, CiX.ir_fn (hbd := rfl) R ns_IR (by decide +kernel) (by decide +kernel) (by decide +kernel) (by decide +kernel) (by decide) (by decide) (by decide) rfl rfl (fun env => rfl) T.ir.no, ?_⟩
  obtain ⟨oc, od, osl, kV, doc, pm, an, ct, rfl, lk⟩ := R.fn
  exact .all fun us hl => match us, hl with | [_, _], _ => rfl
/-- an InvalidRule(-1) is raised -/
theorem ep_irRaise {σ : L2.St} {H : Hp} {E : XK} {ta : TA} (h : EvA ta σ H [.int (-1)]) (k : ∀ d H', Ex H H' → H' d = some (.xd [("index", .int (-1))]) → E (.ref (irC K)) (some d) H') : tMkO (irC K) (CiX.spIr (irC K) "index") [] ta σ H E :=
  h H (Ex.refl _) _ fun H1 e1 => ⟨by decide, fun a ha => ⟨a, .int (-1), rfl, upd_same, fun dx hdx hne => by
    have hd1 : H1 dx = none := by
      rw [upd_ne hne] at hdx
      exact hdx
    refine ⟨rfl, dx, [("index", .int (-1))], upd_same, by rw [upd_ne hne, upd_same], hd1, k dx _ (e1.trans fun b o hb => ?_) upd_same⟩
    rw [upd_ne (ne_of_none hb hd1), del_ne (ne_of_none hb ha), upd_ne (ne_of_none hb ha), upd_ne (ne_of_none hb hd1), upd_ne (ne_of_none hb ha)]
    exact hb⟩⟩
def spRR (K : PySem.W.Frag) : Sp := fun vs H Q E => ∃ nv y ev ws, vs = [nv, .str (wayS y), ev] ∧ ((ws.Nodup ∧ Dp K H ev (wsD ws)) ∨ (ev = .non ∧ ws = allWords)) ∧
  ((∃ n, Dp K H nv (strsD (ntsS n)) ∧ RetP (rrP K n ws y) H Q) ∨ (BadN K H nv ∧ ∀ d H', Ex H H' → H' d = some (.xd [("index", .int (-1))]) → E (.ref (irC K)) (some d) H'))
theorem fn_right_rule (T : Txt K mg) (hP : PgOk P) : ∃ fd, FunD K "right_rule" "right_rule" (defArgs s_right_rule) (defBody s_right_rule) (defScope s_right_rule) [] [("events", .non)] (He.fAd K ("right_rule", none)) fd ∧ FnOk P w K mg base (L2.CX P w) 13 (He.fAd K ("right_rule", none)) fd ["notes", "way", "events"] (spRR K) := by
  obtain ⟨fd, F⟩ := T.f_right_rule
  refine ⟨fd, F, F.ok (CX := L2.CX P w) sc_right_rule (fun vs H Q E h => ?_) fun cdv A outer s H vs Q E hr h => ?_⟩
  · obtain ⟨nv, y, ev, ws, rfl, _⟩ := h
    rfl
  · obtain ⟨nv, y, ev, ws, rfl, hw, hn⟩ := h
    obtain ⟨fi, FI, bI⟩ := ir_ok (P := P) (w := w) (base := base) T hP
    refine ⟨_, (pss_cons (ps_set (i := 3) sc_right_rule.nd rfl (Or.inl rfl) (pe_c (cal_words_of T) hr (by decide) rfl (pa_cons (pv 2) pa_nil)))
      (pss_cons (ps_if (pt_not (pt_val (pe_c (cal_are_notes2 T) hr (by decide) rfl (pa_cons (pv 0) pa_nil))))
        (pss_one (ps_raise rfl (takes_of rfl rfl rfl rfl) (pmk_oex T.oex T.ir.init T.ir.typ FI (hr.mono (by decide)) bI .nil C8.pass0 (by rfl) T.g_IR (pa_cons (pe_un un_neg pe_int) pa_nil))))
        pss_nil)
      (pss_one (ps_ret (pe_c (cal_right_rule_by T) hr (by decide) rfl (pa_cons (pv 0) (pa_cons (pv 1) (pa_cons (pv 3) pa_nil)))))))), ?_⟩
    have eW : EvP (tCall (spWordsOf K) [] C8.E0 (tCons (tVar 2) tNil)) [some nv, some (.str (wayS y)), some ev, none] H (isD K (wsD ws)) := ep_call (ea_cons (ev_var rfl) ea_nil) fun H1 e Q k E => by
      rcases hw with ⟨nd, dW⟩ | ⟨rfl, rfl⟩
      · exact ⟨ev, ws, rfl, .inl ⟨nd, dpT (tOf e) _ _ (noL_ws ws) dW, fun H2 e2 => k ev H2 e2 (dpT (tOf (e.trans e2)) _ _ (noL_ws ws) dW)⟩⟩
      · exact ⟨.non, allWords, rfl, .inr ⟨rfl, rfl, fun u hu H2 e2 => k u H2 e2 (hu H2)⟩⟩
    have ndW : ws.Nodup := by
      rcases hw with ⟨nd, _⟩ | ⟨_, rfl⟩
      · exact nd
      · decide
    refine qp_asg eW fun wv H1 e1 dW => ?_
    rcases hn with ⟨n, hN, k⟩ | ⟨hB, k⟩
    · refine q_when (b := false) (et_is (et_not (et_B (ev_call (sp := spAreNotes2 K) (z := .bl true) (ea_cons (ev_var rfl) ea_nil) fun H5 e5 Q k E => ⟨nv, true, rfl, .inl ⟨rfl, n, dpT (tOf (e1.trans e5)) _ _ (noL_strs _) hN⟩, fun H6 e6 => k H6 e6⟩))) rfl) (fun h => by cases h) fun _ H2 e2 => ?_
      refine sp_ret (ep_call (sp := spRightBy K) (ea_cons (ev_var rfl) (ea_cons (ev_var rfl) (ea_cons (ev_var rfl) ea_nil))) fun H6 e6 Q k E => ⟨nv, y, wv, n, ws, rfl, dpT (tOf ((e1.trans e2).trans e6)) _ _ (noL_strs _) hN, ndW, dpT (tOf (e2.trans e6)) _ _ (noL_ws ws) dW, k⟩) fun v H3 e3 h => k v H3 ((e1.trans e2).trans e3) h
    · refine q_when (b := true) (et_is (et_not (et_B (ev_call (sp := spAreNotes2 K) (z := .bl false) (ea_cons (ev_var rfl) ea_nil) fun H5 e5 Q k E => ⟨nv, false, rfl, .inr ⟨rfl, hB.x (e1.trans e5)⟩, fun H6 e6 => k H6 e6⟩))) rfl) (fun _ H2 e2 => ?_) fun h => by cases h
      exact ep_irRaise (ea_cons (ev_un ev_c fun H3 e3 Q3 q3 => ⟨1, rfl, q3 H3 (Ex.refl _)⟩) ea_nil) fun d H' e' hd => k d H' ((e1.trans e2).trans e') hd
/-- right_rule(notes, way, events = words) -/
theorem kal_right_rule (T : Txt K mg) (hP : PgOk P) : Kal P w K mg base 13 "right_rule" (fun vs H Q _ => ∃ nv y ev n ws, vs = [nv, .str (wayS y), ev] ∧ ws.Nodup ∧ Dp K H ev (wsD ws) ∧ Dp K H nv (strsD (ntsS n)) ∧ RetP (rrP K n ws y) H Q) 2 ["events"] := by
  obtain ⟨fd, F, Fo⟩ := fn_right_rule (P := P) (w := w) (base := base) T hP
  have kp := F.kp
  obtain ⟨oc, od, dV, kV, doc, pm, an, cdv, ct, osl, rfl, lk, hcd, hD, hK⟩ := F.ex
  rcases hD with ⟨_, rfl⟩ | ⟨e, _⟩
  · exact ⟨_, _, _, (fn_calm Fo).imp fun vs H Q E ⟨nv, y, ev, n, ws, h1, h2, h3, h4, h5⟩ => ⟨nv, y, ev, ws, h1, .inl ⟨h2, h3⟩, .inl ⟨n, h4, h5⟩⟩, T.g_right_rule, kp, ⟨fun s us ws _ l1 l2 => .of_eq (match us, ws, l1, l2 with | [_, _], [_], _, _ => rfl), fun r1 r2 => r1.append r2⟩⟩
  · exact absurd rfl e
def spRefused (K : PySem.W.Frag) : Sp := fun vs H Q _ => ∃ nv, vs = [nv] ∧ BadN K H nv ∧ RetV (.int (-1)) H Q
theorem cal_law_refused (T : Txt K mg) (hP : PgOk P) : Cal P w K mg base 15 "_law_refused" (spRefused K) [] := by
  obtain ⟨fd, F⟩ := T.f_law_refused
  refine calD F T.g_law_refused (F.bindsN fun _ _ _ _ _ _ us hl => match us, hl with | [_], _ => rfl) sc_law_refused (fun vs H Q E h => ?_) (fun cdv A outer s H vs Q E hr h => ?_)
  · obtain ⟨nv, rfl, _⟩ := h
    rfl
  · obtain ⟨nv, rfl, hB, k⟩ := h
    obtain ⟨fr, FR, FO⟩ := fn_right_rule (P := P) (w := w) (base := base) T hP
    obtain ⟨ds, vD, bD⟩ := FR.binds0 (ps := ["notes", "way", "events"]) 2 (List.cons_ne_nil _ _) rfl fun D doc pm an cdv ct us ks l1 l2 => (match us, ks, l1, l2 with
      | [_, _], [_], _, _ => ⟨_, _, _, _, _, _, rfl, rfl, rfl⟩)
    refine ⟨_, (pss_cons (ps_set (i := 1) sc_law_refused.nd rfl (Or.inl rfl) pe_non)
      (pss_cons (ps_try_as (i := 2) rfl rfl sc_law_refused.nd rfl rfl ⟨rfl, by decide, .inl T.g_IR⟩ takes0 (fun W pn xe tk _ => pss_one (ps_expr (pe_callD FO (hr.mono (by decide)) (by rfl) T.g_right_rule FR.kp bD vD (fun σ => passAt tk σ) (pa_cons (pv 0) (pa_cons pe_str pa_nil))))) (fun a oe cls d pn hz hf => pss_one (ps_set (i := 1) sc_law_refused.nd rfl (Or.inl rfl) (pe_xf T.ir.xf T.ir.no hz hf (pv 2)))))
      (pss_one (ps_ret (pv 1))))), ?_⟩
    refine q_asg ev_c fun H1 e1 => ?_
    refine ⟨nv, rfl, nv, .every, .non, allWords, rfl, .inr ⟨rfl, rfl⟩, .inr ⟨hB.x e1, fun d H' e' hd => ⟨true, T.ir.exm, fun _ a ha => ?_, fun z => by cases z⟩⟩⟩
    refine ⟨.ref a, rfl, rfl, rfl, d, _, .int (-1), rfl, hd, rfl, ?_⟩
    exact s_ret (ev_var rfl) fun H5 e5 => k H5 ((e1.trans e').trans e5)
end
end Ci

set_option linter.all false
/-! Plain Lean: with both notes there is a right rule. -/
namespace Ci
theorem fault_due {s t : St} {y : Way} {f : Flt} (h : (y, f) ∈ s.faults t) : t.here ≠ s.due y := by
  unfold St.faults at h
  obtain ⟨w, h1, h2⟩ := List.mem_map.mp h
  have h3 := (List.mem_filter.mp h1).2
  cases h2
  intro z
  rw [decide_eq_true z] at h3
  cases h3
/-- same own base: take -/
theorem right_changed (ws : List Word) (f : Flt) : ¬ Faulty [⟨[.same .own .base], .take⟩] ws .changed f := by
  rintro ⟨s, h, _, a, ha⟩
  refine fault_due ha ?_
  show (s.acted (if s.fits a ⟨[.same .own .base], .take⟩ then .take else .keep)).here = if s.here = s.before then s.up else s.here
  have e : s.fits a ⟨[.same .own .base], .take⟩ = decide (s.here = s.before) := by
    show (decide (s.here = s.before) && true) = _
    rw [Bool.and_true]
  rw [e]
  by_cases z : s.here = s.before
  · rw [decide_eq_true z, if_pos rfl, if_pos z]
    rfl
  · rw [decide_eq_false z, if_neg Bool.false_ne_true, if_neg z]
    rfl
/-- mine: the wish stands; free: no wish -/
def WishOk (s : St) : Prop := (s.mine = true → s.wish = some s.here) ∧ (s.mine = false → s.wish = none)
def freeR : Rl := [⟨[.free], .take⟩]
theorem free_carried (s : St) (a : Bool) : s.carried freeR a = if s.mine then ⟨s.up, s.here, s.up, s.wish, s.mine⟩ else ⟨s.up, s.up, s.up, s.wish, false⟩ := by
  show s.acted (if s.fits a ⟨[.free], .take⟩ then .take else .keep) = _
  have e : s.fits a ⟨[.free], .take⟩ = !s.mine := by
    show ((!s.mine) && true) = _
    rw [Bool.and_true]
  rw [e]
  cases hm : s.mine with
  | true =>
    show (⟨s.up, s.here, s.up, s.wish, s.mine⟩ : St) = ⟨s.up, s.here, s.up, s.wish, true⟩
    rw [hm]
  | false => rfl
theorem wish_step {s : St} (h : WishOk s) (e : Evt) : WishOk (happened s freeR e) := by
  obtain ⟨h1, h2⟩ := h
  cases e with
  | carry a =>
    show WishOk (s.carried freeR a)
    rw [free_carried]
    cases hm : s.mine with
    | true => exact ⟨fun _ => h1 hm, fun z => by cases z⟩
    | false => exact ⟨fun z => (by cases z), fun _ => h2 hm⟩
  | plain w => cases w with
    | change => exact ⟨h1, h2⟩
    | delete => exact ⟨h1, h2⟩
    | set => exact ⟨fun _ => rfl, fun z => by cases z⟩
    | remove => exact ⟨fun _ => rfl, fun z => by cases z⟩
    | back => exact ⟨fun z => (by cases z), fun _ => rfl⟩
  | val w v => cases w with
    | change => exact ⟨h1, h2⟩
    | delete => exact ⟨h1, h2⟩
    | set => exact ⟨fun _ => rfl, fun z => by cases z⟩
    | remove => exact ⟨fun _ => rfl, fun z => by cases z⟩
    | back => exact ⟨fun z => (by cases z), fun _ => rfl⟩
theorem wish_path {ws : List Word} {S : Spot} {h : Hist} (p : Path [freeR] ws S h) : ∀ s ∈ S, WishOk s := by
  induction p with
  | start hv =>
    intro s hs
    have : s = St.first _ := List.mem_singleton.mp hs
    rw [this]
    exact ⟨fun z => (by cases z), fun _ => rfl⟩
  | @step S v es e p _ _ ih =>
    intro s hs
    obtain ⟨⟨t, r⟩, h1, rfl⟩ := List.mem_map.mp hs
    have ht := (List.of_mem_zip h1).1
    have hr := List.mem_singleton.mp (List.of_mem_zip h1).2
    show WishOk (happened t r e)
    rw [hr]
    exact wish_step (ih t ht) e
theorem right_every (ws : List Word) (f : Flt) : ¬ Faulty freeR ws .every f := by
  rintro ⟨s, h, p, a, ha⟩
  obtain ⟨h1, h2⟩ := wish_path p s (List.mem_singleton.mpr rfl)
  refine fault_due ha ?_
  rw [free_carried]
  show _ = match s.wish with
    | none => s.up
    | some w => w
  cases hm : s.mine with
  | true =>
    rw [h1 hm]
    rfl
  | false =>
    rw [h2 hm]
    rfl
end Ci

set_option linter.all false
/-! Plain Lean: two histories that look alike and must end otherwise; where a rule is right. -/
namespace Ci
/-! ### the short histories -/
def usedL (s : St) : List Val := [s.up, s.here, s.before] ++ s.wish.toList
def numL : List Int := [1, 2, 3, 4, 5, 6]
def freshL (s : St) : List Int := numL.filter fun i => !decide (some i ∈ usedL s)
def knownL (s : St) : List Int := numL.filter fun i => decide (some i ∈ usedL s)
def valsL (s : St) : List Int := knownL s ++ (freshL s).take 1
def evsW (s : St) (w : Word) : List Evt := if w.valued then (valsL s).map (Evt.val w) else [.plain w]
def evsL (s : St) (ws : List Word) : List Evt := ws.flatMap (evsW s)
def nextsL (ws : List Word) (s : St) : List St := (evsL s ws).map (happened s [])
def roundL (ws : List Word) (l : List St) : List St := l ++ l.flatMap (nextsL ws)
def short0 : List St := [St.first (some 1), St.first none]
def shortL (ws : List Word) : List St := roundL ws (roundL ws short0)
/-- what a rule with notes sees -/
def spotsL (n : Nts) (s : St) : List Val := [s.here, s.up] ++ (if n.base then [s.before] else [])
def spotsV (n : Nts) (s : St) : List Val := [s.up, s.here] ++ (if n.base then [s.before] else [])
def sightL (n : Nts) (s : St) : List Bool := (spotsV n s).map (fun v => v.isNone) ++ (spotsV n s).flatMap (fun a => (spotsV n s).map fun b => decide (a = b)) ++ (if n.mine then [s.mine] else [])
def servedL (d : Val) (s : St) (e : Val) (t : St) : Bool := (decide (s.up = d) && decide (t.up = e)) || (decide (s.here = d) && decide (t.here = e)) || (d.isNone && e.isNone)
def clash (n : Nts) (y : Way) (s t : St) : Bool := decide (sightL n s = sightL n t) && !servedL (s.due y) s (t.due y) t
def conflictL (n : Nts) (y : Way) (ws : List Word) : Bool := (shortL ws).any fun s => (shortL ws).any fun t => clash n y s t
theorem conflict_of {n : Nts} {y : Way} {ws : List Word} {s t : St} (hs : s ∈ shortL ws) (ht : t ∈ shortL ws) (h : clash n y s t = true) : conflictL n y ws = true :=
  List.any_eq_true.mpr ⟨s, hs, List.any_eq_true.mpr ⟨t, ht, h⟩⟩
theorem round_old {ws : List Word} {l : List St} {s : St} (h : s ∈ l) : s ∈ roundL ws l := List.mem_append.mpr (.inl h)
theorem round_new {ws : List Word} {l : List St} {s : St} {e : Evt} (h : s ∈ l) (he : e ∈ evsL s ws) : happened s [] e ∈ roundL ws l :=
  List.mem_append.mpr (.inr (List.mem_flatMap.mpr ⟨s, h, List.mem_map.mpr ⟨e, he, rfl⟩⟩))
theorem ev_val {ws : List Word} {s : St} {w : Word} {i : Int} (h : w ∈ ws) (hv : w.valued = true) (hi : i ∈ valsL s) : Evt.val w i ∈ evsL s ws := by
  refine List.mem_flatMap.mpr ⟨w, h, ?_⟩
  unfold evsW
  rw [if_pos hv]
  exact List.mem_map.mpr ⟨i, hi, rfl⟩
theorem ev_plain {ws : List Word} {s : St} {w : Word} (h : w ∈ ws) (hv : w.valued = false) : Evt.plain w ∈ evsL s ws := by
  refine List.mem_flatMap.mpr ⟨w, h, ?_⟩
  unfold evsW
  rw [if_neg (by rw [hv]; decide)]
  exact List.mem_singleton.mpr rfl
theorem short_1 {ws : List Word} {s : St} {e : Evt} (h : s ∈ short0) (he : e ∈ evsL s ws) : happened s [] e ∈ shortL ws := round_old (round_new h he)
theorem short_2 {ws : List Word} {s : St} {e f : Evt} (h : s ∈ short0) (he : e ∈ evsL s ws) (hf : f ∈ evsL (happened s [] e) ws) : happened (happened s [] e) [] f ∈ shortL ws := round_new (round_new h he) hf
theorem one_in : St.first (some 1) ∈ short0 := List.mem_cons_self
theorem non_in : St.first none ∈ short0 := List.mem_cons_of_mem _ List.mem_cons_self
section
variable {ws : List Word} {n : Nts}
/-- 'every', without mine -/
theorem every_cs (hc : .change ∈ ws) (hs : .set ∈ ws) (hn : n.mine = false) : conflictL n .every ws = true := by
  obtain ⟨b, m⟩ := n
  cases hn
  refine conflict_of (short_1 (e := .val .change 2) one_in (ev_val hc rfl (by decide))) (short_2 (e := .val .set 1) (f := .val .change 2) one_in (ev_val hs rfl (by decide)) (ev_val hc rfl (by decide))) ?_
  cases b <;> decide
theorem every_cr (hc : .change ∈ ws) (hr : .remove ∈ ws) (hn : n.mine = false) : conflictL n .every ws = true := by
  obtain ⟨b, m⟩ := n
  cases hn
  refine conflict_of (short_1 (e := .val .change 1) non_in (ev_val hc rfl (by decide))) (short_2 (e := .plain .remove) (f := .val .change 1) non_in (ev_plain hr rfl) (ev_val hc rfl (by decide))) ?_
  cases b <;> decide
theorem every_ds (hd : .delete ∈ ws) (hs : .set ∈ ws) (hn : n.mine = false) : conflictL n .every ws = true := by
  obtain ⟨b, m⟩ := n
  cases hn
  refine conflict_of (short_1 (e := .plain .delete) one_in (ev_plain hd rfl)) (short_2 (e := .val .set 1) (f := .plain .delete) one_in (ev_val hs rfl (by decide)) (ev_plain hd rfl)) ?_
  cases b <;> decide
/-- 'changed', without base -/
theorem changed_cs (hc : .change ∈ ws) (hs : .set ∈ ws) (hn : n.base = false) : conflictL n .changed ws = true := by
  obtain ⟨b, m⟩ := n
  cases hn
  refine conflict_of (short_2 (e := .val .set 1) (f := .val .change 2) one_in (ev_val hs rfl (by decide)) (ev_val hc rfl (by decide))) (short_1 (e := .val .set 2) one_in (ev_val hs rfl (by decide))) ?_
  cases m <;> decide
theorem changed_cr (hc : .change ∈ ws) (hr : .remove ∈ ws) (hn : n.base = false) : conflictL n .changed ws = true := by
  obtain ⟨b, m⟩ := n
  cases hn
  refine conflict_of (short_2 (e := .plain .remove) (f := .val .change 1) non_in (ev_plain hr rfl) (ev_val hc rfl (by decide))) (short_1 (e := .plain .remove) one_in (ev_plain hr rfl)) ?_
  cases m <;> decide
theorem changed_ds (hd : .delete ∈ ws) (hs : .set ∈ ws) (hn : n.base = false) : conflictL n .changed ws = true := by
  obtain ⟨b, m⟩ := n
  cases hn
  refine conflict_of (short_2 (e := .val .set 1) (f := .plain .delete) one_in (ev_val hs rfl (by decide)) (ev_plain hd rfl)) (short_1 (e := .val .set 1) non_in (ev_val hs rfl (by decide))) ?_
  cases m <;> decide
end

/-! ### where a rule without notes is right -/
def GoodW (ws : List Word) : Prop := (.set ∉ ws ∧ .remove ∉ ws) ∨ (.change ∉ ws ∧ .delete ∉ ws) ∨ (.change ∉ ws ∧ .set ∉ ws)
theorem conflict_bad {ws : List Word} {n : Nts} {y : Way} (h : ¬ GoodW ws) (h1 : ¬ (y = .every ∧ n.mine = true)) (h2 : ¬ (y = .changed ∧ n.base = true)) : conflictL n y ws = true := by
  have hA : (.set ∈ ws ∨ .remove ∈ ws) ∧ (.change ∈ ws ∨ .delete ∈ ws) ∧ (.change ∈ ws ∨ .set ∈ ws) := by
    refine ⟨?_, ?_, ?_⟩
    · by_cases a : Word.set ∈ ws
      · exact .inl a
      · by_cases b : Word.remove ∈ ws
        · exact .inr b
        · exact absurd (.inl ⟨a, b⟩) h
    · by_cases a : Word.change ∈ ws
      · exact .inl a
      · by_cases b : Word.delete ∈ ws
        · exact .inr b
        · exact absurd (.inr (.inl ⟨a, b⟩)) h
    · by_cases a : Word.change ∈ ws
      · exact .inl a
      · by_cases b : Word.set ∈ ws
        · exact .inr b
        · exact absurd (.inr (.inr ⟨a, b⟩)) h
  obtain ⟨a1, a2, a3⟩ := hA
  have three : (.change ∈ ws ∧ .set ∈ ws) ∨ (.change ∈ ws ∧ .remove ∈ ws) ∨ (.delete ∈ ws ∧ .set ∈ ws) := by
    rcases a1 with s | r
    · rcases a2 with c | d
      · exact .inl ⟨c, s⟩
      · exact .inr (.inr ⟨d, s⟩)
    · rcases a3 with c | s
      · exact .inr (.inl ⟨c, r⟩)
      · rcases a2 with c | d
        · exact .inl ⟨c, s⟩
        · exact .inr (.inr ⟨d, s⟩)
  cases y with
  | every =>
    have hm : n.mine = false := by
      cases q : n.mine with
      | false => rfl
      | true => exact absurd ⟨rfl, q⟩ h1
    rcases three with ⟨a, b⟩ | ⟨a, b⟩ | ⟨a, b⟩
    · exact every_cs a b hm
    · exact every_cr a b hm
    · exact every_ds a b hm
  | changed =>
    have hb : n.base = false := by
      cases q : n.base with
      | false => rfl
      | true => exact absurd ⟨rfl, q⟩ h2
    rcases three with ⟨a, b⟩ | ⟨a, b⟩ | ⟨a, b⟩
    · exact changed_cs a b hb
    · exact changed_cr a b hb
    · exact changed_ds a b hb
/-- an invariant of one rule's paths -/
theorem path_inv {rows : Rl} {ws : List Word} {F : St → Prop} (h0 : ∀ v, F (St.first v)) (hs : ∀ s e, Evt.inW ws e → F s → F (happened s rows e)) {S : Spot} {h : Hist} (p : Path [rows] ws S h) : ∀ s ∈ S, F s := by
  induction p with
  | start hv =>
    intro s hs
    have : s = St.first _ := List.mem_singleton.mp hs
    rw [this]
    exact h0 _
  | @step S v es e p _ he ih =>
    intro s hm
    obtain ⟨⟨t, r⟩, h1, rfl⟩ := List.mem_map.mp hm
    have ht := (List.of_mem_zip h1).1
    have hr := List.mem_singleton.mp (List.of_mem_zip h1).2
    show F (happened t r e)
    rw [hr]
    exact hs t e he (ih t ht)
theorem not_faulty {rows : Rl} {ws : List Word} {y : Way} {F : St → Prop} (h0 : ∀ v, F (St.first v)) (hs : ∀ s e, Evt.inW ws e → F s → F (happened s rows e)) (hd : ∀ s a, F s → (s.carried rows a).here = s.due y) (f : Flt) : ¬ Faulty rows ws y f := by
  rintro ⟨s, h, p, a, ha⟩
  exact fault_due ha (hd s a (path_inv h0 hs p s (List.mem_singleton.mpr rfl)))
def allR : Rl := [⟨[], .take⟩]
def delR : Rl := [⟨[.there .own, .gone .above], .take⟩]
theorem all_carried (s : St) (a : Bool) : s.carried allR a = ⟨s.up, s.up, s.up, s.wish, false⟩ := rfl
theorem non_carried (s : St) (a : Bool) : s.carried [] a = ⟨s.up, s.here, s.up, s.wish, s.mine⟩ := rfl
theorem del_carried (s : St) (a : Bool) : s.carried delR a = if s.here.isSome && s.up.isNone then ⟨s.up, s.up, s.up, s.wish, false⟩ else ⟨s.up, s.here, s.up, s.wish, s.mine⟩ := by
  show s.acted (if s.fits a ⟨[.there .own, .gone .above], .take⟩ then .take else .keep) = _
  have e : s.fits a ⟨[.there .own, .gone .above], .take⟩ = (s.here.isSome && s.up.isNone) := by
    show (s.here.isSome && (s.up.isNone && true)) = _
    rw [Bool.and_true]
  rw [e]
  cases s.here.isSome && s.up.isNone <;> rfl
/-- no edits: take all -/
theorem right_take {ws : List Word} (h1 : .set ∉ ws) (h2 : .remove ∉ ws) (y : Way) (f : Flt) : ¬ Faulty allR ws y f := by
  refine not_faulty (F := fun s => s.wish = none ∧ s.here = s.before) (fun v => ⟨rfl, rfl⟩) (fun s e he h => ?_) (fun s a h => ?_) f
  · cases e with
    | carry a => exact ⟨h.1, rfl⟩
    | plain w => cases w with
      | change => exact h
      | delete => exact h
      | set => exact absurd he.1 h1
      | remove => exact absurd he.1 h2
      | back => exact ⟨rfl, rfl⟩
    | val w v => cases w with
      | change => exact h
      | delete => exact h
      | set => exact absurd he.1 h1
      | remove => exact absurd he.1 h2
      | back => exact ⟨rfl, rfl⟩
  · rw [all_carried]
    cases y with
    | every =>
      show s.up = match s.wish with
        | none => s.up
        | some w => w
      rw [h.1]
    | changed =>
      show s.up = if s.here = s.before then s.up else s.here
      rw [if_pos h.2]
/-- nothing changes above: keep -/
theorem right_keep {ws : List Word} (h1 : .change ∉ ws) (h2 : .delete ∉ ws) (y : Way) (f : Flt) : ¬ Faulty [] ws y f := by
  refine not_faulty (F := fun s => s.up = s.before ∧ (match s.wish with | none => s.here = s.up | some w => s.here = w)) (fun v => ⟨rfl, rfl⟩) (fun s e he h => ?_) (fun s a h => ?_) f
  · cases e with
    | carry a => exact ⟨rfl, h.2⟩
    | plain w => cases w with
      | change => exact absurd he.1 h1
      | delete => exact absurd he.1 h2
      | set => exact ⟨h.1, rfl⟩
      | remove => exact ⟨h.1, rfl⟩
      | back => exact ⟨rfl, rfl⟩
    | val w v => cases w with
      | change => exact absurd he.1 h1
      | delete => exact absurd he.1 h2
      | set => exact ⟨h.1, rfl⟩
      | remove => exact ⟨h.1, rfl⟩
      | back => exact ⟨rfl, rfl⟩
  · rw [non_carried]
    obtain ⟨u, g⟩ := h
    cases y with
    | every =>
      show s.here = match s.wish with
        | none => s.up
        | some w => w
      cases hw : s.wish with
      | none =>
        rw [hw] at g
        exact g
      | some w =>
        rw [hw] at g
        exact g
    | changed =>
      show s.here = if s.here = s.before then s.up else s.here
      by_cases z : s.here = s.before
      · rw [if_pos z, z, u]
      · rw [if_neg z]
/-- things only go: take what is gone -/
theorem right_del {ws : List Word} (h1 : .change ∉ ws) (h2 : .set ∉ ws) (y : Way) (f : Flt) : ¬ Faulty delR ws y f := by
  refine not_faulty (F := fun s => (s.up = s.before ∨ s.up = none) ∧ (s.here = s.before ∨ s.here = none) ∧ (match s.wish with | none => s.here = s.before | some w => w = none ∧ s.here = none)) (fun v => ⟨.inl rfl, .inl rfl, rfl⟩) (fun s e he h => ?_) (fun s a h => ?_) f
  · cases e with
    | carry a =>
      show _ ∧ _ ∧ _
      rw [show happened s delR (.carry a) = s.carried delR a from rfl, del_carried]
      obtain ⟨g1, g2, g3⟩ := h
      cases hh : s.here with
      | none =>
        rw [hh] at g2 g3
        refine ⟨.inl rfl, .inr rfl, ?_⟩
        show (match s.wish with | none => (none : Val) = s.up | some w => w = none ∧ (none : Val) = none)
        cases hw : s.wish with
        | none =>
          rw [hw] at g3
          rcases g1 with g | g
          · rw [g]
            exact g3
          · exact g.symm
        | some w =>
          rw [hw] at g3
          exact ⟨g3.1, rfl⟩
      | some i =>
        have hb : s.before = some i := by
          rcases g2 with g | g
          · rw [← g, hh]
          · rw [hh] at g
            cases g
        have hw : s.wish = none := by
          cases hw : s.wish with
          | none => rfl
          | some w =>
            rw [hw, hh] at g3
            cases g3.2
        cases hu : s.up with
        | none =>
          refine ⟨.inl rfl, .inl rfl, ?_⟩
          show (match s.wish with | none => (none : Val) = none | some w => w = none ∧ (none : Val) = none)
          rw [hw]
        | some j =>
          have hij : j = i := by
            rcases g1 with g | g
            · rw [hu, hb] at g
              exact Option.some.inj g
            · rw [hu] at g
              cases g
          subst hij
          refine ⟨.inl rfl, .inl rfl, ?_⟩
          show (match s.wish with | none => (some j : Val) = some j | some w => w = none ∧ (some j : Val) = none)
          rw [hw]
    | plain w => cases w with
      | change => exact absurd he.1 h1
      | delete => exact ⟨.inr rfl, h.2⟩
      | set => exact absurd he.1 h2
      | remove => exact ⟨h.1, .inr rfl, rfl, rfl⟩
      | back => exact ⟨.inl rfl, .inl rfl, rfl⟩
    | val w v => cases w with
      | change => exact absurd he.1 h1
      | delete => exact absurd he.2 (by decide)
      | set => exact absurd he.1 h2
      | remove => exact absurd he.2 (by decide)
      | back => exact ⟨.inl rfl, .inl rfl, rfl⟩
  · rw [del_carried]
    obtain ⟨g1, g2, g3⟩ := h
    cases hh : s.here with
    | none =>
      show (none : Val) = s.due y
      rw [hh] at g3
      cases y with
      | every =>
        show (none : Val) = match s.wish with
          | none => s.up
          | some w => w
        cases hw : s.wish with
        | none =>
          rw [hw] at g3
          rcases g1 with g | g
          · rw [g]
            exact g3
          · exact g.symm
        | some w =>
          rw [hw] at g3
          exact g3.1.symm
      | changed =>
        show (none : Val) = if s.here = s.before then s.up else s.here
        rw [hh]
        by_cases z : (none : Val) = s.before
        · rw [if_pos z]
          rcases g1 with g | g
          · rw [g]
            exact z
          · exact g.symm
        · rw [if_neg z]
    | some i =>
      have hb : s.before = some i := by
        rcases g2 with g | g
        · rw [← g, hh]
        · rw [hh] at g
          cases g
      have hw : s.wish = none := by
        cases hw : s.wish with
        | none => rfl
        | some w =>
          rw [hw, hh] at g3
          cases g3.2
      have hd : s.due y = s.up := by
        cases y with
        | every =>
          show (match s.wish with
            | none => s.up
            | some w => w) = s.up
          rw [hw]
        | changed =>
          show (if s.here = s.before then s.up else s.here) = s.up
          rw [hh, hb, if_pos rfl]
      rw [hd]
      cases hu : s.up with
      | none => rfl
      | some j =>
        rcases g1 with g | g
        · rw [hu, hb] at g
          exact g.symm
        · rw [hu] at g
          cases g
theorem good_right {ws : List Word} (h : GoodW ws) (y : Way) : ∃ rows ∈ ([[], allR, delR] : List Rl), ∀ f, ¬ Faulty rows ws y f := by
  rcases h with h | h | h
  · exact ⟨allR, by decide, right_take h.1 h.2 y⟩
  · exact ⟨[], by decide, right_keep h.1 h.2 y⟩
  · exact ⟨delR, by decide, right_del h.1 h.2 y⟩
/-- a rule that is not at fault leaves what is due -/
theorem due_of {rows : Rl} {ws : List Word} {y : Way} (h : ∀ f, ¬ Faulty rows ws y f) {s : St} {k : Hist} (p : Path [rows] ws [s] k) (a : Bool) : (s.carried rows a).here = s.due y := by
  by_cases z : (s.carried rows a).here = s.due y
  · exact z
  · refine absurd ⟨s, k, p, a, ?_⟩ (h (s.word y))
    unfold St.faults
    refine List.mem_map.mpr ⟨y, List.mem_filter.mpr ⟨by cases y <;> decide, ?_⟩, rfl⟩
    rw [decide_eq_false z]
    rfl
end Ci

set_option Elab.async false
set_option linter.all false
set_option maxRecDepth 100000
set_option maxHeartbeats 4000000
/-! The law's own hand of numbers: _law_mix, _law_next, _law_pick. -/
namespace Ci
open PySem PySem.Spec PyProof.Rows L2 Evl
open C8 (Cal Met Mak pe_c pe_mk pe_mt pe_mt0 pe_gc)
/-- the hand: [number, cells, count] -/
structure HA (hp cl : Addr) (H : Hp) : Prop where
  ex : ∃ (s c : Int) (cells : List Int), H hp = some (.lst [.int s, .ref cl, .int c]) ∧ H cl = some (.lst (cells.map V.int)) ∧ cells.length ≤ 63
  ne : hp ≠ cl
def Fr (hp cl : Addr) (H H' : Hp) : Prop := ∀ b o, b ≠ hp → b ≠ cl → H b = some o → H' b = some o
theorem Fr.refl {hp cl : Addr} (H : Hp) : Fr hp cl H H := fun _ _ _ _ h => h
theorem Fr.trans {hp cl : Addr} {H H1 H2 : Hp} (a : Fr hp cl H H1) (b : Fr hp cl H1 H2) : Fr hp cl H H2 := fun x o n m h => b x o n m (a x o n m h)
theorem frOf {hp cl : Addr} {H H' : Hp} (e : Ex H H') : Fr hp cl H H' := fun b o _ _ h => e b o h
theorem HA.x {hp cl : Addr} {H H' : Hp} (A : HA hp cl H) (e : Ex H H') : HA hp cl H' := by
  obtain ⟨⟨s, c, l, h1, h2, h3⟩, n⟩ := A
  exact ⟨⟨s, c, l, e _ _ h1, e _ _ h2, h3⟩, n⟩
theorem Fr.t {hp cl : Addr} {H H' : Hp} (f : Fr hp cl H H') (A : HA hp cl H) : ExT H H' := fun b o hb im => by
  obtain ⟨⟨s, c, l, h1, h2, h3⟩, n⟩ := A
  refine f b o (fun z => ?_) (fun z => ?_) hb
  · subst z
    rw [h1] at hb
    cases hb
    exact im
  · subst z
    rw [h2] at hb
    cases hb
    exact im
section
variable {P : Program} {w : World} {K : PySem.W.Frag} {mg : Str → Option Value} {base : Heap}
def spMix (K : PySem.W.Frag) : Sp := fun vs H Q _ => ∃ (a : Addr) (ns : List Int) (seed : Int), vs = [.ref a, .int seed] ∧ SqL K H a (ns.map V.int) ∧ ns.length ≤ 63 ∧ -(2 ^ 64) < seed ∧ seed < 2 ^ 64 ∧ ∀ hp cl H', Ex H H' → HA hp cl H' → Q (.ref hp) H'
theorem cal_law_mix (T : Txt K mg) : Cal P w K mg base 1 "_law_mix" (spMix K) [] := by
  obtain ⟨fd, F⟩ := T.f_law_mix
  refine calD F T.g_law_mix (F.bindsN fun _ _ _ _ _ _ us hl => match us, hl with | [_, _], _ => rfl) sc_law_mix (fun vs H Q E h => ?_) (fun cdv A outer s H vs Q E hr h => ?_)
  · obtain ⟨a, ns, seed, rfl, _⟩ := h
    rfl
  · obtain ⟨a, ns, seed, rfl, hx, hl, s1, s2, k⟩ := h
    refine ⟨_, (pss_cons (ps_set (i := 2) sc_law_mix.nd rfl (Or.inl rfl) (pv 1))
      (pss_cons (ps_for PassesOwn.never rfl (pi_list (pv 0)) (pg_name (i := 3) sc_law_mix.nd rfl (Or.inl rfl))
        (pss_one (ps_set (i := 2) sc_law_mix.nd rfl (Or.inl rfl) (pe_op op_mod (pe_callTy call_int1 (by rfl) T.z_int (by decide +kernel) (pa_cons (pe_op op_add (pe_op op_add (pe_op op_mul (pv 2) pe_int) (pe_op op_mod (pe_callTy call_int1 (by rfl) T.z_int (by decide +kernel) (pa_cons (pv 3) pa_nil)) pe_int)) pe_int) pa_nil)) pe_int))))
      (pss_one (ps_ret (pe_lst (pa_cons (pv 2) (pa_cons (pe_callTy (kListOf K) (by rfl) T.z_list (by decide +kernel) (pa_cons (pv 0) pa_nil)) (pa_cons pe_int pa_nil)))))))), ?_⟩
    refine q_asg (ev_var rfl) fun H1 e1 => ?_
    refine (s_forL (xs := ns.map V.int) (ev_var rfl) (ex_l e1 hx) (fun i σ' H' => Ex H H' ∧ ∃ (z : Int) (u : Option V), -(2 ^ 64) < z ∧ z < 2 ^ 64 ∧ σ' = [some (.ref a), some (.int seed), some (.int z), u]) (fun H2 e2 => ⟨e1.trans e2, seed, none, s1, s2, rfl⟩) (fun i σ' H' _ h => ex_l h.1 hx) ?_ ?_)
    · rintro i x σ' H' hxi ⟨eH, z, u, z1, z2, rfl⟩
      obtain ⟨n, hn⟩ : ∃ n, x = V.int n := by
        have := List.mem_of_getElem? hxi
        obtain ⟨n, _, e⟩ := List.mem_map.mp this
        exact ⟨n, e.symm⟩
      subst hn
      have iv : ∀ {te : TE} {σ : L2.St} {H2 : Hp} {j : Int}, Ev te σ H2 (.int j) → Ev (tCB (fun xs H Q => (∃ i, xs = [.int i] ∧ Q (.int i) H) ∨ ∃ k, xs = [.bl k] ∧ Q (.int (if k then 1 else 0)) H) (tCons te tNil)) σ H2 (.int j) := fun h H3 e3 Q q => h H3 e3 _ fun H4 e4 => .inl ⟨_, rfl, q H4 e4⟩
      refine s_asg (ev_op (iv (ev_op (ev_op (ev_op (ev_var rfl) ev_c (rv_I (C := CMul) (g := fun i j => V.int (i * j)) (.inl ⟨z1, z2⟩))) (ev_op (iv (ev_var rfl)) ev_c (rv_I (C := fun _ j => 0 < j) (g := fun i j => V.int (i % j)) (by decide))) (rv_I0 (g := fun i j => V.int (i + j)))) ev_c (rv_I0 (g := fun i j => V.int (i + j))))) ev_c (rv_I (C := fun _ j => 0 < j) (g := fun i j => V.int (i % j)) (by decide))) fun H2 e2 => ⟨eH.trans e2, _, _, ?_, ?_, rfl⟩
      · have := Int.emod_nonneg (z * 48271 + n % 2147483629 + 1) (show (2147483647 : Int) ≠ 0 by decide)
        omega
      · have := Int.emod_lt_of_pos (z * 48271 + n % 2147483629 + 1) (show (0 : Int) < 2147483647 by decide)
        omega
    · rintro σ' H' ⟨eH, z, u, z1, z2, rfl⟩
      show tRet (tLst (tCons (tVar 2) (tCons (tCB (rLo K) (tCons (tVar 0) tNil)) (tCons (tC (.int 0)) tNil)))) { nx := fun _ H' => Q .non H', rt := Q } [some (.ref a), some (.int seed), some (.int z), u] H'
      refine ⟨_, rfl, _, rfl, a, _, rfl, .inl (ex_l eH hx), fun cl hcl => ⟨sz_of (by show 3 ≤ 100000; decide), fun hp hhp => k hp cl _ ((eH.trans (Ex.new hcl)).trans (Ex.new hhp)) ⟨⟨z, 0, ns, upd_same, ?_, hl⟩, ?_⟩⟩⟩
      · exact (Ex.new hhp) _ _ upd_same
      · intro e
        subst e
        rw [upd_same] at hhp
        cases hhp
def spNext : Sp := fun vs H Q _ => ∃ (hp cl : Addr) (cap : Int), vs = [.ref hp, .int cap] ∧ HA hp cl H ∧ 0 < cap ∧ cap < 1000 ∧ ∀ (r : Int) H', 0 ≤ r → r < cap → Fr hp cl H H' → HA hp cl H' → Q (.int r) H'
theorem cal_law_next (T : Txt K mg) : Cal P w K mg base 1 "_law_next" spNext [] := by
  obtain ⟨fd, F⟩ := T.f_law_next
  refine calD F T.g_law_next (F.bindsN fun _ _ _ _ _ _ us hl => match us, hl with | [_, _], _ => rfl) sc_law_next (fun vs H Q E h => ?_) (fun cdv A outer s H vs Q E hr h => ?_)
  · obtain ⟨hp, cl, cap, rfl, _⟩ := h
    rfl
  · obtain ⟨hp, cl, cap, rfl, A, c1, c2, k⟩ := h
    obtain ⟨⟨s0, c0, cells, h1, h2, h3⟩, ne⟩ := id A
    refine ⟨_, (pss_cons (ps_set (i := 2) sc_law_next.nd rfl (Or.inl rfl) (pix (kIxL K) (pe_op op_cat (pix (kIxL K) (pv 0) pe_int) (pe_lst (pa_cons pe_int pa_nil))) (pe_op op_mod (pe_callTy call_int1 (by rfl) T.z_int (by decide +kernel) (pa_cons (pix (kIxL K) (pv 0) pe_int) pa_nil)) (pe_callB (call_max2 rfl) (by rfl) T.z_max (by decide +kernel) (pa_cons pe_int (pa_cons (pe_callB (kLen K) (by rfl) T.z_len PySem.boot_len (pa_cons (pix (kIxL K) (pv 0) pe_int) pa_nil)) pa_nil))))))
      (pss_cons (ps_if (ptc op_ge (pv 2) (pe_op op_pow pe_int pe_int))
        (pss_cons (ps_asg (pe_op op_fdiv (pv 2) (pv 1)) (pg_sub (pix (kIxL K) (pv 0) pe_int) (pe_op op_mod (pe_callTy call_int1 (by rfl) T.z_int (by decide +kernel) (pa_cons (pix (kIxL K) (pv 0) pe_int) pa_nil)) (pe_callB (kLen K) (by rfl) T.z_len PySem.boot_len (pa_cons (pix (kIxL K) (pv 0) pe_int) pa_nil))) set_list))
        (pss_one (ps_ret (pe_op op_mod (pe_callTy call_int1 (by rfl) T.z_int (by decide +kernel) (pa_cons (pv 2) pa_nil)) (pv 1)))))
        pss_nil)
      (pss_cons (ps_asg (pe_op op_mod (pe_callTy call_int1 (by rfl) T.z_int (by decide +kernel) (pa_cons (pe_op op_add (pe_op op_add (pe_op op_mul (pix (kIxL K) (pv 0) pe_int) pe_int) (pe_op op_mul (pv 2) pe_int)) pe_int) pa_nil)) pe_int) (pg_sub (pv 0) pe_int set_list))
      (pss_cons (ps_asg (pe_op op_add (pix (kIxL K) (pv 0) pe_int) pe_int) (pg_sub (pv 0) pe_int set_list))
      (pss_one (ps_ret (pe_op op_mod (pe_callTy call_int1 (by rfl) T.z_int (by decide +kernel) (pa_cons (pe_op op_fdiv (pix (kIxL K) (pv 0) pe_int) pe_int) pa_nil)) (pv 1)))))))), ?_⟩
    have iv : ∀ {te : TE} {σ : L2.St} {H2 : Hp} {j : Int}, Ev te σ H2 (.int j) → Ev (tCB (fun xs H Q => (∃ i, xs = [.int i] ∧ Q (.int i) H) ∨ ∃ k, xs = [.bl k] ∧ Q (.int (if k then 1 else 0)) H) (tCons te tNil)) σ H2 (.int j) := fun h H3 e3 Q q => h H3 e3 _ fun H4 e4 => .inl ⟨_, rfl, q H4 e4⟩
    have g0 : ∀ {σ : L2.St} {H2 : Hp} {s c : Int}, σ[0]? = some (some (.ref hp)) → H2 hp = some (.lst [.int s, .ref cl, .int c]) → Ev (tOp (rIxL K) (tVar 0) (tC (.int 0))) σ H2 (.int s) := fun hσ h => ev_op (ev_var hσ) ev_c (rv_ixL (SqL.of h) (atI_nat (j := 0) rfl))
    have g1 : ∀ {σ : L2.St} {H2 : Hp} {s c : Int}, σ[0]? = some (some (.ref hp)) → H2 hp = some (.lst [.int s, .ref cl, .int c]) → Ev (tOp (rIxL K) (tVar 0) (tC (.int 1))) σ H2 (.ref cl) := fun hσ h => ev_op (ev_var hσ) ev_c (rv_ixL (SqL.of h) (atI_nat (j := 1) rfl))
    have g2 : ∀ {σ : L2.St} {H2 : Hp} {s c : Int}, σ[0]? = some (some (.ref hp)) → H2 hp = some (.lst [.int s, .ref cl, .int c]) → Ev (tOp (rIxL K) (tVar 0) (tC (.int 2))) σ H2 (.int c) := fun hσ h => ev_op (ev_var hσ) ev_c (rv_ixL (SqL.of h) (atI_nat (j := 2) rfl))
    -- the cell
    have hm : ∃ m : Int, (if ((cells.map V.int).length : Int) > 1 then ((cells.map V.int).length : Int) else 1) = m ∧ 0 < m ∧ m ≤ cells.length + 1 := by
      refine ⟨_, rfl, ?_, ?_⟩
      · split <;> omega
      · rw [List.length_map]
        split <;> omega
    obtain ⟨m, em, m1, m2⟩ := hm
    obtain ⟨i, hi, hil⟩ : ∃ i : Nat, c0 % m = (i : Int) ∧ i < cells.length + 1 := by
      have a1 := Int.emod_nonneg c0 (show m ≠ 0 by omega)
      have a2 := Int.emod_lt_of_pos c0 m1
      exact ⟨(c0 % m).toNat, by omega, by omega⟩
    obtain ⟨x, hx⟩ : ∃ x : Int, ((cells ++ [0]).map V.int)[i]? = some (.int x) := by
      have hlt : i < ((cells ++ [0]).map V.int).length := by
        rw [List.length_map, List.length_append]
        exact hil
      refine ⟨(cells ++ [0])[i]'(by rw [List.length_map] at hlt; exact hlt), ?_⟩
      rw [List.getElem?_eq_getElem hlt, List.getElem_map]
    have cellE : Ev (tOp (rIxL K) (tOp rCat (tOp (rIxL K) (tVar 0) (tC (.int 1))) (tLst (tCons (tC (.int 0)) tNil))) (tOp (rI (fun _ j => 0 < j) fun i j => .int (i % j)) (tCB (fun xs H Q => (∃ i, xs = [.int i] ∧ Q (.int i) H) ∨ ∃ k, xs = [.bl k] ∧ Q (.int (if k then 1 else 0)) H) (tCons (tOp (rIxL K) (tVar 0) (tC (.int 2))) tNil)) (tCB (fun xs H Q => ∃ i j, xs = [.int i, .int j] ∧ Q (.int (if j > i then j else i)) H) (tCons (tC (.int 1)) (tCons (tCB (rLn K) (tCons (tOp (rIxL K) (tVar 0) (tC (.int 1))) tNil)) tNil))))) [some (.ref hp), some (.int cap), none] H (.int x) := fun H1 e1 Q q =>
      (g1 rfl h1) H1 e1 _ fun H2 e2 => ⟨sz_of (by decide), fun l hl => by
        have e12 := (e1.trans e2).trans (Ex.new hl (o := .lst [V.int 0]))
        refine ⟨cl, l, cells.map V.int, [.int 0], rfl, rfl, e12 _ _ h2, upd_same, sz_of (by rw [List.length_map]; show cells.length + 1 ≤ 100000; omega), fun p hp' => ?_⟩
        have e13 := e12.trans (Ex.new hp' (o := .lst (cells.map V.int ++ [V.int 0])))
        refine (iv (g2 rfl h1)) _ e13 _ fun H4 e4 => ?_
        refine (ev_max2 ev_c (ev_lenL (g1 rfl h1) h2)) H4 (e13.trans e4) _ fun H5 e5 => ⟨c0, m, rfl, by rw [em], m1, ?_⟩
        refine ⟨p, (cells ++ [0]).map V.int, (i : Int), .int x, rfl, by rw [← hi], .inl (.inl (by rw [List.map_append]; exact (e4.trans e5) _ _ upd_same)), atI_nat hx, q H5 ?_⟩
        exact (((e2.trans (Ex.new hl (o := .lst [V.int 0]))).trans (Ex.new hp')).trans e4).trans e5⟩
    refine q_asg cellE fun H1 e1 => ?_
    have h1' := e1 _ _ h1
    have h2' := e1 _ _ h2
    have pw : (10 : Int) ^ (18 : Int).toNat = 1000000000000000000 := by decide +kernel
    refine q_when (b := decide ((1000000000000000000 : Int) ≤ x)) (et_is (et_test (ev_op (x := .int x) (y := .int 1000000000000000000) (ev_var rfl) (ev_is (ev_op ev_c ev_c (rv_I (C := CPow) (g := fun i j => V.int (i ^ j.toNat)) ⟨by decide, by decide, by decide⟩)) (congrArg V.int pw)) (rv_I0 (g := fun i j => V.bl (decide (j ≤ i)))))) rfl) (fun hb H2 e2 => ?_) (fun hb H2 e2 => ?_)
    · have hbig : (1000000000000000000 : Int) ≤ x := of_decide_eq_true hb
      have hpos : 0 < cells.length := by
        cases cells with
        | cons a b => exact Nat.succ_pos _
        | nil =>
          exfalso
          have : i = 0 := by
            have : i < 0 + 1 := hil
            omega
          subst this
          have e : (0 : Int) = x := V.int.inj (Option.some.inj hx)
          omega
      have eml : m = (cells.length : Int) := by
        rw [← em, List.length_map]
        split <;> omega
      have hil2 : i < cells.length := by
        have a2 := Int.emod_lt_of_pos c0 m1
        omega
      have h1'' := e2 _ _ h1'
      have h2'' := e2 _ _ h2'
      refine s_setL (xs := cells.map V.int) (j := i) h2'' (ev_op (ev_var rfl) (ev_var rfl) (rv_I (C := CDiv) (g := fun i j => V.int (i / j)) ⟨c1, by omega⟩)) (g1 rfl h1'') (ev_is (ev_op (iv (g2 rfl h1'')) (ev_is (ev_lenL (g1 rfl h1'') h2'') (congrArg (fun z : Nat => V.int (z : Int)) (List.length_map _))) (rv_I (C := fun _ j => 0 < j) (g := fun i j => V.int (i % j)) (by omega))) (by rw [← hi, eml])) (by rw [List.length_map]; exact hil2) fun H3 e3 => ?_
      have e := (e1.trans e2).trans e3
      refine s_ret (ev_op (iv (ev_var rfl)) (ev_var rfl) (rv_I (C := fun _ j => 0 < j) (g := fun i j => V.int (i % j)) c1)) fun H4 e4 => ?_
      refine k _ H4 (Int.emod_nonneg _ (by omega)) (Int.emod_lt_of_pos _ c1) (fun b o n1 n2 hbo => e4 _ _ (by rw [upd_ne n2]; exact e _ _ hbo)) ⟨⟨s0, c0, cells.set i (x / cap), e4 _ _ (by rw [upd_ne ne]; exact e _ _ h1), e4 _ _ (by rw [upd_same, List.map_set]), by rw [List.length_set]; exact h3⟩, ne⟩
    · have h1'' := e2 _ _ h1'
      have h2'' := e2 _ _ h2'
      refine s_setL (xs := [.int s0, .ref cl, .int c0]) (j := 0) h1'' (ev_op (iv (ev_op (ev_op (ev_op (g0 rfl h1'') ev_c (rv_I (C := CMul) (g := fun i j => V.int (i * j)) (.inr ⟨by decide, by decide⟩))) (ev_op (ev_var rfl) ev_c (rv_I (C := CMul) (g := fun i j => V.int (i * j)) (.inr ⟨by decide, by decide⟩))) (rv_I0 (g := fun i j => V.int (i + j)))) ev_c (rv_I0 (g := fun i j => V.int (i + j))))) ev_c (rv_I (C := fun _ j => 0 < j) (g := fun i j => V.int (i % j)) (by decide))) (ev_var rfl) ev_c (by show 0 < 3; decide) fun H3 e3 => ?_
      generalize (s0 * 48271 + x * 69621 + 11) % 2147483647 = s1
      have hs3 : (L2.upd H3 hp (.lst (([.int s0, .ref cl, .int c0] : List V).set 0 (.int s1)))) hp = some (.lst [.int s1, .ref cl, .int c0]) := upd_same
      refine s_setL (xs := [.int s1, .ref cl, .int c0]) (j := 2) hs3 (ev_op (g2 rfl hs3) ev_c (rv_I0 (g := fun i j => V.int (i + j)))) (ev_var rfl) ev_c (by show 2 < 3; decide) fun H4 e4 => ?_
      have hs4 : (L2.upd H4 hp (.lst (([.int s1, .ref cl, .int c0] : List V).set 2 (.int (c0 + 1))))) hp = some (.lst [.int s1, .ref cl, .int (c0 + 1)]) := upd_same
      refine s_ret (ev_op (iv (ev_op (g0 rfl hs4) ev_c (rv_I (C := CDiv) (g := fun i j => V.int (i / j)) ⟨by decide, by decide⟩))) (ev_var rfl) (rv_I (C := fun _ j => 0 < j) (g := fun i j => V.int (i % j)) c1)) fun H5 e5 => ?_
      have e := (e1.trans e2).trans e3
      refine k _ H5 (Int.emod_nonneg _ (by omega)) (Int.emod_lt_of_pos _ c1) (fun b o n1 n2 hbo => e5 _ _ (by rw [upd_ne n1]; exact e4 _ _ (by rw [upd_ne n1]; exact e _ _ hbo))) ⟨⟨s1, c0 + 1, cells, e5 _ _ hs4, e5 _ _ (by rw [upd_ne (Ne.symm ne)]; exact e4 _ _ (by rw [upd_ne (Ne.symm ne)]; exact e _ _ h2)), h3⟩, ne⟩
end
end Ci

set_option Elab.async false
set_option linter.all false
set_option maxRecDepth 100000
set_option maxHeartbeats 4000000
/-! Readings that move the hand of numbers. -/
namespace Ci
open PySem PySem.Spec PyProof.Rows L2 Evl
open C8 (Cal Met Mak pe_c pe_mk pe_mt pe_mt0 pe_gc)
section
variable {K : PySem.W.Frag} {hp cl : Addr} {σ : L2.St} {H : Hp} {ta tb te tl : TE} {tt tr : TA} {t : TT} {D : Ends} {R : Pr} {Rs : List V → Hp → Prop} {g : TG} {tu : TS} {tz : TS} {E : XK} {α : Type}
/-- gives something; the hand moves on -/
def EvX (hp cl : Addr) (te : TE) (σ : L2.St) (H : Hp) (R : Pr) : Prop := ∀ H1, Fr hp cl H H1 → HA hp cl H1 → ∀ Q : VK, (∀ v H2, Fr hp cl H1 H2 → HA hp cl H2 → R v H2 → Q v H2) → te σ H1 Q
def EvXA (hp cl : Addr) (tt : TA) (σ : L2.St) (H : Hp) (Rs : List V → Hp → Prop) : Prop := ∀ H1, Fr hp cl H H1 → HA hp cl H1 → ∀ Q : List V → Hp → Prop, (∀ vs H2, Fr hp cl H1 H2 → HA hp cl H2 → Rs vs H2 → Q vs H2) → tt σ H1 Q
def EvXT (hp cl : Addr) (t : TT) (σ : L2.St) (H : Hp) : Prop := ∀ H1, Fr hp cl H H1 → HA hp cl H1 → ∀ Q : Bool → Hp → Prop, (∀ b H2, Fr hp cl H1 H2 → HA hp cl H2 → Q b H2) → t σ H1 Q
def SpX (hp cl : Addr) (sp : Sp) (vs : List V) (H : Hp) (R : Pr) : Prop := HA hp cl H → ∀ Q : VK, (∀ v H2, Fr hp cl H H2 → HA hp cl H2 → R v H2 → Q v H2) → ∀ E : XK, sp vs H Q E
theorem ex_of (h : ∀ H1, Fr hp cl H H1 → HA hp cl H1 → EvP te σ H1 R) : EvX hp cl te σ H R := fun H1 f A Q q => h H1 f A H1 (Ex.refl _) Q fun v H2 e r => q v H2 (frOf e) (A.x e) r
theorem ex_c {v : V} (h : ∀ H1, R v H1) : EvX hp cl (tC v) σ H R := ex_of fun H1 _ _ => ep_of ev_c fun H2 _ => h H2
theorem ex_v {v : V} {i : Nat} (hi : σ[i]? = some (some v)) (h : ∀ H1, Fr hp cl H H1 → HA hp cl H1 → R v H1) : EvX hp cl (tVar i) σ H R := fun H1 f A Q q => ⟨v, hi, q v H1 (Fr.refl _) A (h H1 f A)⟩
theorem ex_imp {R' : Pr} (h : EvX hp cl te σ H R) (hr : ∀ v H1, HA hp cl H1 → R v H1 → R' v H1) : EvX hp cl te σ H R' := fun H1 f A Q q => h H1 f A Q fun v H2 f2 A2 r => q v H2 f2 A2 (hr v H2 A2 r)
theorem xa_nil : EvXA hp cl tNil σ H (fun vs _ => vs = []) := fun H1 _ A Q q => q [] H1 (Fr.refl _) A rfl
theorem xa_cons (h : EvX hp cl ta σ H R) (st : StbT R) (hr : EvXA hp cl tr σ H Rs) : EvXA hp cl (tCons ta tr) σ H (fun vs H1 => ∃ v r, vs = v :: r ∧ R v H1 ∧ Rs r H1) := fun H1 f A Q q =>
  h H1 f A _ fun v H2 f2 A2 rv => hr H2 (f.trans f2) A2 _ fun r H3 f3 A3 rr => q (v :: r) H3 (f2.trans f3) A3 ⟨v, r, rfl, st v H2 H3 (f3.t A2) rv, rr⟩
theorem xa_v {v : V} {i : Nat} (hi : σ[i]? = some (some v)) (hr : EvXA hp cl tr σ H Rs) : EvXA hp cl (tCons (tVar i) tr) σ H (fun vs H1 => ∃ r, vs = v :: r ∧ Rs r H1) := fun H1 f A Q q =>
  ⟨v, hi, hr H1 f A _ fun r H3 f3 A3 rr => q (v :: r) H3 f3 A3 ⟨r, rfl, rr⟩⟩
theorem ex_call {sp : Sp} {dvs : List V} (h : EvXA hp cl tt σ H Rs) (hs : ∀ vs H1, Fr hp cl H H1 → Rs vs H1 → SpX hp cl sp (vs ++ dvs) H1 R) : EvX hp cl (tCall sp dvs E tt) σ H R := fun H1 f A Q q =>
  h H1 f A _ fun vs H2 f2 A2 r => hs vs H2 (f.trans f2) r A2 Q (fun v H3 f3 A3 rv => q v H3 (f2.trans f3) A3 rv) E
theorem ex_tup {n : Nat} (h : EvXA hp cl tt σ H Rs) (hl : ∀ vs H1, Rs vs H1 → vs.length = n) (hn : n ≤ 1000) (hR : ∀ vs a H1 H2, Rs vs H1 → Ex H1 H2 → H2 a = some (.tup vs) → R (.ref a) H2) : EvX hp cl (tTup tt) σ H R := fun H1 f A Q q =>
  h H1 f A _ fun vs H2 f2 A2 r => ⟨sz_of (by rw [hl vs H2 r]; omega), fun p hpp => q (.ref p) _ (f2.trans (frOf (Ex.new hpp))) (A2.x (Ex.new hpp)) (hR vs p H2 _ r (Ex.new hpp) upd_same)⟩
/-- tuples of data -/
def XD (K : PySem.W.Frag) (hp cl : Addr) (tt : TA) (σ : L2.St) (H : Hp) (ds : List PyData) : Prop := EvXA hp cl tt σ H (fun vs H1 => DpAll K H1 vs ds)
theorem qx_asg {i : Nat} (h : EvX hp cl te σ H R) (A : HA hp cl H) (k : ∀ v H2, Fr hp cl H H2 → HA hp cl H2 → R v H2 → tz D (σ.set i (some v)) H2) : tSeq (tAsg te (gName i)) tz D σ H := h H (Fr.refl _) A _ k
theorem qx_asgG (h : EvX hp cl te σ H R) (A : HA hp cl H) (k : ∀ v H2, Fr hp cl H H2 → HA hp cl H2 → R v H2 → g v σ H2 (tz D)) : tSeq (tAsg te g) tz D σ H := h H (Fr.refl _) A _ k
theorem sx_ret (h : EvX hp cl te σ H R) (A : HA hp cl H) (k : ∀ v H2, Fr hp cl H H2 → HA hp cl H2 → R v H2 → D.rt v H2) : tRet te D σ H := h H (Fr.refl _) A _ k
theorem sx_when {tu : TS} (h : EvXT hp cl t σ H) (A : HA hp cl H) (h1 : ∀ H1, Fr hp cl H H1 → HA hp cl H1 → tu { D with nx := tz D } σ H1) (h2 : ∀ H1, Fr hp cl H H1 → HA hp cl H1 → tz D σ H1) : tSeq (tIfS t tu tNext) tz D σ H := h H (Fr.refl _) A _ fun b H1 f A1 => by
  cases b with
  | true =>
    show tu { D with nx := tz D } σ H1
    exact h1 H1 f A1
  | false =>
    show tz D σ H1
    exact h2 H1 f A1
/-! comprehensions whose parts move the hand -/
def ItX (hp cl : Addr) (wi : TI) (σ : L2.St) (H : Hp) (as : List α) (Ri : α → Pr) : Prop :=
  ∀ H1, Fr hp cl H H1 → HA hp cl H1 → ∀ Rk : It → Hp → Prop, (∀ (J : It) (H2 : Hp) (G : Hp → Prop) (Y : Nat → Hp → V → Hp → Prop), Ex H1 H2 → (∀ H3, Fr hp cl H2 H3 → HA hp cl H3 → G H3) → Walk J as.length G Y →
    (∀ i Ha x Hb, Fr hp cl H2 Ha → HA hp cl Ha → Y i Ha x Hb → i < as.length → ∃ a, as[i]? = some a ∧ Ex Ha Hb ∧ Ri a x Hb) → Rk J H2) → wi σ H1 Rk
def LsX (hp cl : Addr) (R : α → Pr) (as : List α) : Pr := fun v H => ∃ p ys bs, v = .ref p ∧ p ≠ hp ∧ p ≠ cl ∧ H p = some (.lst ys) ∧ bs.Sublist as ∧ Paired (fun y b => R b y H) ys bs
theorem sub_take {as : List α} {bs : List α} {i : Nat} {a : α} (h : as[i]? = some a) (s : bs.Sublist (as.take i)) : (bs ++ [a]).Sublist (as.take (i + 1)) := by
  rw [take_next h]
  exact s.append (List.Sublist.refl _)
theorem ex_comp {wi : TI} {us : List Nat} {R : α → Pr} (as : List α) (Ri : α → Pr) (S : α → L2.St → Hp → Prop) (hi : ItX hp cl wi σ H as Ri)
    (hg : ∀ a x H1, a ∈ as → Fr hp cl H H1 → HA hp cl H1 → Ri a x H1 → ∀ Kt : L2.St → Hp → Prop, (∀ σ2, wipe σ2 us = wipe σ us → S a σ2 H1 → Kt σ2 H1) → g x (wipe σ us) H1 Kt)
    (ht : ∀ a σ2 H1, a ∈ as → Fr hp cl H H1 → S a σ2 H1 → EvXT hp cl t σ2 H1) (hS : ∀ a σ2 H1 H2, Fr hp cl H1 H2 → HA hp cl H1 → S a σ2 H1 → S a σ2 H2) (he : ∀ a σ2 H1, a ∈ as → Fr hp cl H H1 → S a σ2 H1 → EvX hp cl te σ2 H1 (R a))
    (stb : ∀ b, StbT (R b)) (hz : as.length ≤ 1000) : EvX hp cl (tLc wi g t te us) σ H (LsX hp cl R as) := fun H1 f1 A1 Q q => by
  refine hi H1 f1 A1 _ fun J H2 G Y e2 hG w hY => ?_
  have A2 := A1.x e2
  intro D hD
  have nh : D ≠ hp := fun z => by
    subst z
    obtain ⟨⟨_, _, _, h, _⟩, _⟩ := A2
    rw [hD] at h
    cases h
  have nc : D ≠ cl := fun z => by
    subst z
    obtain ⟨⟨_, _, _, _, h, _⟩, _⟩ := A2
    rw [hD] at h
    cases h
  have mutF : ∀ {Hx : Hp} {o : HO}, Fr hp cl H2 Hx → Fr hp cl H2 (L2.upd Hx D o) := fun f b o n m hb => by
    rw [upd_ne (ne_of_none hb hD)]
    exact f b o n m hb
  have HAm : ∀ {Hx : Hp} {o : HO}, HA hp cl Hx → HA hp cl (L2.upd Hx D o) := fun A => by
    obtain ⟨⟨s, c, l, h1, h2, h3⟩, n⟩ := A
    exact ⟨⟨s, c, l, by rw [upd_ne (Ne.symm nh)]; exact h1, by rw [upd_ne (Ne.symm nc)]; exact h2, h3⟩, n⟩
  refine lc_it w (fun i H' => Fr hp cl H2 H' ∧ HA hp cl H' ∧ ∃ ys bs, H' D = some (.lst ys) ∧ bs.Sublist (as.take i) ∧ Paired (fun y b => R b y H') ys bs) ⟨frOf (Ex.new hD), HAm A2, [], [], upd_same, List.nil_sublist _, .nil⟩ (fun i H' _ p => hG H' p.1 p.2.1) ?_ ?_
  · rintro i x Ha Hb hlt ⟨pf, pA, ys, bs, hys, hsub, hp'⟩ y
    obtain ⟨a, ha, eab, ri⟩ := hY i Ha x Hb pf pA y hlt
    have hm : a ∈ as := List.mem_of_getElem? ha
    have fb : Fr hp cl H Hb := (f1.trans (frOf e2)).trans (pf.trans (frOf eab))
    have Ab := pA.x eab
    refine hg a x Hb hm fb Ab ri _ fun σ2 hw2 s2 => ⟨hw2, ?_⟩
    refine ht a σ2 Hb hm fb s2 Hb (Fr.refl _) Ab _ fun b H3 f3 A3 => ?_
    have ys3 : H3 D = some (.lst ys) := f3 _ _ nh nc (eab _ _ hys)
    have p3 := paired_T stb ((tOf eab).trans (f3.t Ab)) hp'
    cases b with
    | false =>
      rw [if_neg Bool.false_ne_true]
      refine ⟨(pf.trans (frOf eab)).trans f3, A3, ys, bs, ys3, hsub.trans ?_, p3⟩
      rw [take_next ha]
      exact List.sublist_append_left _ _
    | true =>
      rw [if_pos rfl]
      refine he a σ2 H3 hm (fb.trans f3) (hS a σ2 Hb H3 f3 Ab s2) H3 (Fr.refl _) A3 _ fun v H4 f4 A4 r4 => ?_
      have ys4 : H4 D = some (.lst ys) := f4 _ _ nh nc ys3
      have hl : ys.length = bs.length := Paired.length hp'
      have hll : bs.length ≤ i := Nat.le_trans hsub.length_le (by rw [List.length_take]; exact Nat.min_le_left _ _)
      have eT : ExT H4 (L2.upd H4 D (.lst (ys ++ [v]))) := ExT.upd (ExT.refl _) ys4 (fun z => z)
      refine ⟨ys, ys4, sz_lt (by omega), mutF (((pf.trans (frOf eab)).trans f3).trans f4), HAm A4, ys ++ [v], bs ++ [a], upd_same, sub_take ha hsub, ?_⟩
      exact paired_snoc (F := fun y b => R b y (L2.upd H4 D (.lst (ys ++ [v])))) (stb _ _ _ _ eT r4) (paired_T stb ((f4.t A3).trans eT) p3)
  · rintro H' ⟨pf, pA, ys, bs, hys, hsub, hp'⟩
    rw [List.take_of_length_le (Nat.le_refl _)] at hsub
    exact q (.ref D) H' ((frOf e2).trans pf) pA ⟨D, ys, bs, rfl, nh, nc, hys, hsub, hp'⟩
theorem itx_range {n : Nat} (hn : n ≤ 1000) : ItX hp cl (iRng1 (tCons (tC (.int (n : Int))) tNil)) σ H (List.range n) (fun i x _ => x = .int (i : Nat)) := fun H1 f1 A1 Rk k =>
  ⟨n, rfl, by omega, by omega, k (Itr 0 ((n : Int)).toNat) H1 (fun _ => True) (YFn fun i => .int (0 + i)) (Ex.refl _) (fun _ _ _ => trivial) (by rw [List.length_range]; exact walk_range) fun i Ha x Hb _ _ y hi => by
    obtain ⟨rfl, rfl⟩ := y
    rw [List.length_range] at hi
    exact ⟨i, List.getElem?_range hi, Ex.refl _, congrArg V.int (Int.zero_add _)⟩⟩
theorem itx_list {l : Addr} {xs : List V} {as : List α} {Ri : α → Pr} {i : Nat} (hσ : σ[i]? = some (some (.ref l))) (n1 : l ≠ hp) (n2 : l ≠ cl) (hl : H l = some (.lst xs)) (hq : Paired (fun x b => ∀ H1, Ri b x H1) xs as) : ItX hp cl (iList K (tVar i)) σ H as Ri := fun H1 f1 A1 Rk k =>
  ⟨.ref l, hσ, l, rfl, ⟨xs, SqL.of (f1 _ _ n1 n2 hl)⟩, k (Itl K l) H1 (fun H' => SqL K H' l xs) (YAt xs) (Ex.refl _) (fun H3 f3 _ => SqL.of (f3 _ _ n1 n2 (f1 _ _ n1 n2 hl))) (by rw [← Paired.length hq]; exact walk_list) fun i Ha x Hb _ _ y hi => by
    obtain ⟨rfl, hy⟩ := y
    obtain ⟨b, hb, rb⟩ := paired_get hq hy
    exact ⟨b, hb, Ex.refl _, rb _⟩⟩
theorem et_x {b : Bool} (h : ∀ H1, Fr hp cl H H1 → HA hp cl H1 → EvT t σ H1 b) : EvXT hp cl t σ H := fun H1 f A Q q => h H1 f A H1 (Ex.refl _) _ fun H2 e => q b H2 (frOf e) (A.x e)
theorem xt_eqi {j : Int} (ha : EvX hp cl ta σ H (fun v _ => ∃ i, v = .int i)) : EvXT hp cl (tTest (tOp rEq ta (tC (.int j)))) σ H := fun H1 f A Q q =>
  ha H1 f A _ fun v H2 f2 A2 ⟨i, ev⟩ => by
    subst ev
    exact ⟨rfl, _, rfl, q _ H2 f2 A2⟩
theorem xt_gti {j : Int} (ha : EvX hp cl ta σ H (fun v _ => ∃ i, v = .int i)) : EvXT hp cl (tTest (tOp (rI0 fun i j => .bl (decide (j < i))) ta (tC (.int j)))) σ H := fun H1 f A Q q =>
  ha H1 f A _ fun v H2 f2 A2 ⟨i, ev⟩ => by
    subst ev
    exact ⟨i, j, rfl, rfl, _, rfl, q _ H2 f2 A2⟩
end
section
variable {P : Program} {w : World} {K : PySem.W.Frag} {mg : Str → Option Value} {base : Heap}
section
variable {hp cl : Addr} {σ : L2.St} {H : Hp} {ta tb te : TE} {E : XK} {cap : Int}
def isN (cap : Int) : Pr := fun v _ => ∃ r : Int, v = .int r ∧ 0 ≤ r ∧ r < cap
theorem ex_next {i : Nat} (hi : σ[i]? = some (some (.ref hp))) (hb : ∀ H1, Fr hp cl H H1 → HA hp cl H1 → Ev tb σ H1 (.int cap)) (c1 : 0 < cap) (c2 : cap < 1000) : EvX hp cl (tCall spNext [] E (tCons (tVar i) (tCons tb tNil))) σ H (isN cap) := fun H1 f A Q q =>
  ⟨.ref hp, hi, (hb H1 f A) H1 (Ex.refl _) _ fun H2 e2 => ⟨hp, cl, cap, rfl, A.x e2, c1, c2, fun r H3 r1 r2 f3 A3 => q _ H3 ((frOf e2).trans f3) A3 ⟨r, rfl, r1, r2⟩⟩⟩
end
/-- pick: one of the things -/
def spPick (K : PySem.W.Frag) : Sp := fun vs H Q _ => ∃ (hp cl l : Addr) (xs : List V), vs = [.ref hp, .ref l] ∧ HA hp cl H ∧ l ≠ hp ∧ l ≠ cl ∧ H l = some (.lst xs) ∧ xs ≠ [] ∧ xs.length < 1000 ∧ ∀ x H', x ∈ xs → Fr hp cl H H' → HA hp cl H' → Q x H'
theorem cal_law_pick (T : Txt K mg) : Cal P w K mg base 2 "_law_pick" (spPick K) [] := by
  obtain ⟨fd, F⟩ := T.f_law_pick
  refine calD F T.g_law_pick (F.bindsN fun _ _ _ _ _ _ us hl => match us, hl with | [_, _], _ => rfl) sc_law_pick (fun vs H Q E h => ?_) (fun cdv A outer s H vs Q E hr h => ?_)
  · obtain ⟨hp, cl, l, xs, rfl, _⟩ := h
    rfl
  · obtain ⟨hp, cl, l, xs, rfl, A, n1, n2, hl, hne, few, k⟩ := h
    have hpos : 0 < xs.length := by
      cases xs with
      | nil => exact absurd rfl hne
      | cons a b => exact Nat.succ_pos _
    refine ⟨_, (pss_one (ps_ret (pix (kIxL K) (pv 1) (pe_c (cal_law_next T) hr (by decide) rfl (pa_cons (pv 0) (pa_cons (pe_callB (kLen K) (by rfl) T.z_len PySem.boot_len (pa_cons (pv 1) pa_nil)) pa_nil)))))), ?_⟩
    refine ⟨.ref l, rfl, ?_⟩
    refine (ex_next (cap := (xs.length : Int)) (cl := cl) rfl (fun H1 f A1 => ev_lenL (ev_var rfl) (f _ _ n1 n2 hl)) (by omega) (by omega)) H (Fr.refl _) A _ fun v H2 f A2 ⟨r, ev, r1, r2⟩ => ?_
    subst ev
    have hlt : r.toNat < xs.length := by omega
    refine ⟨l, xs, (r.toNat : Int), xs[r.toNat], rfl, by rw [show ((r.toNat : Nat) : Int) = r from by omega], SqL.of (f _ _ n1 n2 hl), atI_nat (List.getElem?_eq_getElem hlt), k _ H2 (List.getElem_mem hlt) f A2⟩
/-- pick from a list made here -/
theorem ex_pickL {hp cl : Addr} {σ : L2.St} {H : Hp} {tt : TA} {E : XK} {i : Nat} {Rs : List V → Hp → Prop} (hi : σ[i]? = some (some (.ref hp))) (h : EvXA hp cl tt σ H Rs) (hz : ∀ vs H1, Rs vs H1 → vs ≠ [] ∧ vs.length < 1000) : EvX hp cl (tCall (spPick K) [] E (tCons (tVar i) (tCons (tLst tt) tNil))) σ H (fun v H1 => ∃ vs H0, v ∈ vs ∧ Rs vs H0 ∧ ExT H0 H1) := fun H1 f A Q q =>
  ⟨.ref hp, hi, h H1 f A _ fun vs H2 f2 A2 r => ⟨sz_of (by have := (hz vs H2 r).2; omega), fun l hl => by
    have A3 := A2.x (Ex.new hl (o := .lst vs))
    have n1 : l ≠ hp := fun z => by
      subst z
      obtain ⟨⟨_, _, _, h, _⟩, _⟩ := A2
      rw [hl] at h
      cases h
    have n2 : l ≠ cl := fun z => by
      subst z
      obtain ⟨⟨_, _, _, _, h, _⟩, _⟩ := A2
      rw [hl] at h
      cases h
    exact ⟨hp, cl, l, vs, rfl, A3, n1, n2, upd_same, (hz vs H2 r).1, (hz vs H2 r).2, fun x H4 hx f4 A4 => q x H4 ((f2.trans (frOf (Ex.new hl))).trans f4) A4 ⟨vs, H2, hx, r, (tOf (Ex.new hl)).trans (f4.t A3)⟩⟩⟩⟩
end
end Ci

set_option Elab.async false
set_option linter.all false
set_option maxRecDepth 100000
set_option maxHeartbeats 4000000
/-! Further readings of the hand. -/
namespace Ci
open PySem PySem.Spec PyProof.Rows L2 Evl
open C8 (Cal Met Mak pe_c pe_mk pe_mt pe_mt0 pe_gc)
section
variable {K : PySem.W.Frag} {hp cl : Addr} {σ : L2.St} {H : Hp} {ta tb te tl : TE} {tt tr : TA} {t : TT} {xs ys : List V} {E : XK}
theorem el_cat (ha : EvL ta σ H xs) (hb : EvL tb σ H ys) (few : xs.length + ys.length ≤ 1000) : EvL (tOp rCat ta tb) σ H (xs ++ ys) := fun H1 e1 Q q =>
  ha H1 e1 _ fun a H2 ha2 e2 hxa => hb H2 (e1.trans e2) _ fun b H3 hb3 e3 hyb => ⟨a, b, xs, ys, rfl, rfl, e3 _ _ hxa, hyb, sz_of (by omega), fun p hpp => q p _ (fresh_back (e2.trans e3) hpp) ((e2.trans e3).trans (Ex.new hpp)) upd_same⟩
theorem el_if {b : Bool} (h : EvT t σ H b) (h1 : b = true → EvL ta σ H xs) (h2 : b = false → EvL tb σ H xs) : EvL (tIf t ta tb) σ H xs := fun H1 e1 Q q => h H1 e1 _ fun H2 e2 => by
  cases b with
  | true =>
    show ta σ H2 Q
    exact h1 rfl H2 (e1.trans e2) Q fun p H3 hp3 e3 h3 => q p H3 (fresh_back e2 hp3) (e2.trans e3) h3
  | false =>
    show tb σ H2 Q
    exact h2 rfl H2 (e1.trans e2) Q fun p H3 hp3 e3 h3 => q p H3 (fresh_back e2 hp3) (e2.trans e3) h3
theorem HA.new {p : Addr} (A : HA hp cl H) (h : H p = none) : p ≠ hp ∧ p ≠ cl := by
  obtain ⟨⟨_, _, _, h1, h2, _⟩, _⟩ := A
  constructor
  · intro z
    subst z
    rw [h] at h1
    cases h1
  · intro z
    subst z
    rw [h] at h2
    cases h2
theorem HA.strs {p : Addr} {z : Str} {r : List V} (A : HA hp cl H) (h : H p = some (.lst (.str z :: r))) : p ≠ hp ∧ p ≠ cl := by
  obtain ⟨⟨_, _, cells, h1, h2, _⟩, _⟩ := A
  constructor
  · intro e
    subst e
    rw [h] at h1
    cases h1
  · intro e
    subst e
    rw [h] at h2
    cases cells <;> cases h2
theorem xa_of {vs : List V} (h : ∀ H1, Fr hp cl H H1 → HA hp cl H1 → EvA tt σ H1 vs) : EvXA hp cl tt σ H (fun us _ => us = vs) := fun H1 f A Q q => h H1 f A H1 (Ex.refl _) _ fun H2 e2 => q vs H2 (frOf e2) (A.x e2) rfl
theorem ex_pick {i j : Nat} {l : Addr} (hi : σ[i]? = some (some (.ref hp))) (hj : σ[j]? = some (some (.ref l))) (n1 : l ≠ hp) (n2 : l ≠ cl) (hl : H l = some (.lst xs)) (hne : xs ≠ []) (few : xs.length < 1000) : EvX hp cl (tCall (spPick K) [] E (tCons (tVar i) (tCons (tVar j) tNil))) σ H (fun v _ => v ∈ xs) := fun H1 f A Q q =>
  ⟨.ref hp, hi, .ref l, hj, hp, cl, l, xs, rfl, A, n1, n2, f _ _ n1 n2 hl, hne, few, fun x H2 hx f2 A2 => q x H2 f2 A2 hx⟩
theorem ex_pickP {i : Nat} {R : List V → Prop} (hi : σ[i]? = some (some (.ref hp))) (h : ∀ H1, Fr hp cl H H1 → HA hp cl H1 → EvP te σ H1 (fun v H2 => ∃ p ys, v = .ref p ∧ H2 p = some (.lst ys) ∧ (∃ z r, ys = .str z :: r) ∧ ys.length < 1000 ∧ R ys)) : EvX hp cl (tCall (spPick K) [] E (tCons (tVar i) (tCons te tNil))) σ H (fun v _ => ∃ ys, R ys ∧ v ∈ ys) := fun H1 f A Q q =>
  ⟨.ref hp, hi, h H1 f A H1 (Ex.refl _) _ fun v H2 e2 ⟨p, ys, ev, hpy, ⟨z, r, ez⟩, few, hR⟩ => by
    subst ev
    have A2 := A.x e2
    have nn := A2.strs (by rw [hpy, ez])
    exact ⟨hp, cl, p, ys, rfl, A2, nn.1, nn.2, hpy, by rw [ez]; exact List.cons_ne_nil _ _, few, fun x H3 hx f3 A3 => q x H3 ((frOf e2).trans f3) A3 ⟨ys, hR, hx⟩⟩⟩
/-- pick from written texts -/
theorem ex_pickS {i : Nat} {vs : List V} (hi : σ[i]? = some (some (.ref hp))) (h : ∀ H1, EvA tt σ H1 vs) (hne : vs ≠ []) (few : vs.length < 1000) : EvX hp cl (tCall (spPick K) [] E (tCons (tVar i) (tCons (tLst tt) tNil))) σ H (fun v _ => v ∈ vs) :=
  ex_imp (ex_pickL hi (xa_of fun H1 _ _ => h H1) fun us H1 e => by rw [e]; exact ⟨hne, few⟩) fun v H1 _ ⟨us, H0, hm, e, _⟩ => by rw [← e]; exact hm
end
theorem stb_mem (vs : List V) : StbT (fun v _ => v ∈ vs) := fun _ _ _ _ h => h
end Ci

set_option Elab.async false
set_option linter.all false
set_option maxRecDepth 100000
set_option maxHeartbeats 4000000
/-! _law_words. -/
namespace Ci
open PySem PySem.Spec PyProof.Rows L2 Evl
open C8 (Cal Met Mak pe_c pe_mk pe_mt pe_mt0 pe_gc)
section
variable {P : Program} {w : World} {K : PySem.W.Frag} {mg : Str → Option Value} {base : Heap}
/-- a list of words, a part of l -/
def wlP (hp cl : Addr) (l : List Word) : Pr := fun v H => ∃ (p : Addr) (ws : List Word), v = .ref p ∧ p ≠ hp ∧ p ≠ cl ∧ H p = some (.lst ((ws.map wordS).map V.str)) ∧ ws.Sublist l
theorem paired_wordsP {H : Hp} : ∀ {ys : List V} {ws : List Word}, Paired (fun y (x : Word) => isV (.str (wordS x)) y H) ys ws → ys = (ws.map wordS).map V.str
  | _, _, .nil => rfl
  | _, _, .cons r t => by
    have h : _ = V.str _ := r
    rw [h, paired_wordsP t]
    rfl
theorem pair_words : ∀ (l : List Word), Paired (fun x (b : Word) => ∀ H1 : Hp, x = V.str (wordS b)) ((l.map wordS).map V.str) l
  | [] => .nil
  | _ :: l => .cons (fun _ => rfl) (pair_words l)
def spLawWords (K : PySem.W.Frag) : Sp := fun vs H Q _ => ∃ (hp cl : Addr), vs = [.ref hp] ∧ HA hp cl H ∧ ∀ v H', Fr hp cl H H' → HA hp cl H' → wlP hp cl allWords v H' → Q v H'
theorem cal_law_words (T : Txt K mg) : Cal P w K mg base 2 "_law_words" (spLawWords K) [] := by
  obtain ⟨fd, F⟩ := T.f_law_words
  refine calD F T.g_law_words (F.bindsN fun _ _ _ _ _ _ us hl => match us, hl with | [_], _ => rfl) sc_law_words (fun vs H Q E h => ?_) (fun cdv A outer s H vs Q E hr h => ?_)
  · obtain ⟨hp, cl, rfl, _⟩ := h
    rfl
  · obtain ⟨hp, cl, rfl, A, k⟩ := h
    refine ⟨_, (pss_cons (ps_set (i := 1) sc_law_words.nd rfl (Or.inl rfl) (pe_lst (pa_cons pe_str (pa_cons pe_str (pa_cons pe_str (pa_cons pe_str (pa_cons pe_str pa_nil)))))))
      (pss_cons (ps_if (ptc op_eq (pe_c (cal_law_next T) hr (by decide) rfl (pa_cons (pv 0) (pa_cons pe_int pa_nil))) pe_int)
        (pss_one (ps_ret (pv 1)))
        pss_nil)
      (pss_one (ps_ret (pe_lcT (own := [("_law_word", 2)]) (by rfl) sc_law_words.nd (pi_list (pv 1)) (blkOk_by (own := [("_law_word", 2)]) (N := n_law_words) (sc := defScope s_law_words) (by decide +kernel)) (fun _ _ _ _ _ => (pg_name (i := 2) sc_law_words.nd rfl (Or.inl rfl))) (fun _ _ _ _ _ => (ptc op_eq (pe_c (cal_law_next T) hr (by decide) rfl (pa_cons (pv 0) (pa_cons pe_int pa_nil))) pe_int)) (fun _ _ _ _ _ => (pv 2))))))), ?_⟩
    refine q_asgL (el_lst (vs := (allWords.map wordS).map V.str) (ea_cons ev_c (ea_cons ev_c (ea_cons ev_c (ea_cons ev_c (ea_cons ev_c ea_nil))))) (by decide)) fun l H1 hl0 e1 hl => ?_
    have A1 := A.x e1
    have nn := A.new hl0
    refine sx_when (xt_eqi (ex_imp (ex_next (cap := 2) rfl (fun _ _ _ => ev_c) (by decide) (by decide)) fun v Hx _ ⟨r, e, _, _⟩ => ⟨r, e⟩)) A1 (fun H2 f2 A2 => ?_) (fun H2 f2 A2 => ?_)
    · exact s_ret (ev_var rfl) fun H3 e3 => k _ H3 (((frOf e1).trans f2).trans (frOf e3)) (A2.x e3) ⟨l, allWords, rfl, nn.1, nn.2, e3 _ _ (f2 _ _ nn.1 nn.2 hl), List.Sublist.refl _⟩
    · refine sx_ret (ex_comp (R := fun x => isV (.str (wordS x))) allWords (fun x v _ => v = .str (wordS x)) (fun x σ2 _ => σ2[0]? = some (some (.ref hp)) ∧ σ2[2]? = some (some (.str (wordS x)))) (itx_list (K := K) rfl nn.1 nn.2 (f2 _ _ nn.1 nn.2 hl) (pair_words allWords)) (fun x v H3 _ _ _ hv Kt kt => by
        subst hv
        exact kt _ rfl ⟨rfl, rfl⟩) (fun x σ2 H3 _ _ h => xt_eqi (ex_imp (ex_next (cap := 2) h.1 (fun _ _ _ => ev_c) (by decide) (by decide)) fun v Hx _ ⟨r, e, _, _⟩ => ⟨r, e⟩)) (fun _ _ _ _ _ _ h => h) (fun x σ2 H3 _ _ h => ex_v h.2 fun _ _ _ => rfl) (fun _ _ _ _ _ h => h) (by decide)) A2 fun v H3 f3 A3 ⟨p, ys, bs, ev, n1, n2, hpy, hs, hq⟩ => ?_
      subst ev
      have ey := paired_wordsP hq
      subst ey
      exact k _ H3 (((frOf e1).trans f2).trans f3) A3 ⟨p, bs, rfl, n1, n2, hpy, hs⟩
end
end Ci

set_option Elab.async false
set_option linter.all false
set_option maxRecDepth 100000
set_option maxHeartbeats 4000000
/-! The law's own states: lists; heaps in which lists of the law are filled. -/
namespace Ci
open PySem PySem.Spec PyProof.Rows L2 Evl
open C8 (Cal Met Mak pe_c pe_mk pe_mt pe_mt0 pe_gc)
/-! ### data of a state -/
def wiD : Option Val → PyData
  | none => .none
  | some v => .list [valD v]
def stD (s : St) : PyData := .list [valD s.up, valD s.here, valD s.before, wiD s.wish, .bool s.mine]
section
variable {K : PySem.W.Frag} {H H' : Hp}
theorem dp_of_vo (x : Val) : Dp K H (vo x) (valD x) := by
  cases x with
  | none => exact .non
  | some i => exact .int i
mutual
theorem dpX (e : Ex H H') : ∀ (d : PyData) (v : V), Dp K H v d → Dp K H' v d
  | .none, _, h => by cases h; exact .non
  | .bool b, _, h => by cases h; exact .bl b
  | .int i, _, h => by cases h; exact .int i
  | .str x, _, h => by cases h; exact .str x
  | .tuple ds, _, h => by
    cases h with
    | tup h1 h2 => exact .tup (ex_t e h1) (dpsX e ds _ h2)
  | .list ds, _, h => by
    cases h with
    | lst h1 h2 => exact .lst (ex_l e h1) (dpsX e ds _ h2)
  | .dict _, _, h => by cases h
theorem dpsX (e : Ex H H') : ∀ (ds : List PyData) (vs : List V), DpAll K H vs ds → DpAll K H' vs ds
  | [], _, h => by cases h; exact .nil
  | d :: ds, _, h => by
    cases h with
    | cons h1 h2 => exact .cons (dpX e d _ h1) (dpsX e ds _ h2)
end
end
/-! ### what stands though lists of objects are filled -/
def isRefV : V → Bool
  | .ref _ => true
  | _ => false
def ImmL (o : HO) : Prop := Imm o ∨ ∃ xs x, o = .lst xs ∧ xs.getLast? = some x ∧ isRefV x = false
def ExL (H H' : Hp) : Prop := ∀ a o, H a = some o → ImmL o → H' a = some o
theorem ExL.refl (H : Hp) : ExL H H := fun _ _ h _ => h
theorem ExL.trans {H H1 H2 : Hp} (a : ExL H H1) (b : ExL H1 H2) : ExL H H2 := fun x o h i => b x o (a x o h i) i
theorem lOf {H H' : Hp} (e : Ex H H') : ExL H H' := fun a o h _ => e a o h
theorem ExL.upd {H H' : Hp} {p : Addr} {o u : HO} (e : ExL H H') (h : H' p = some o) (n : ¬ ImmL o) : ExL H (L2.upd H' p u) := fun a z ha i => by
  have h1 := e a z ha i
  by_cases hp : a = p
  · subst hp
    rw [h] at h1
    cases h1
    exact absurd i n
  · rw [upd_ne hp]
    exact h1
def isSc : PyData → Bool
  | .none => true
  | .bool _ => true
  | .int _ => true
  | .str _ => true
  | _ => false
mutual
def okL : PyData → Bool
  | .tuple ds => okLs ds
  | .list ds => okLs ds && (match ds.getLast? with
    | some d => isSc d
    | none => false)
  | _ => true
def okLs : List PyData → Bool
  | [] => true
  | d :: ds => okL d && okLs ds
end
theorem okL_tup (ds : List PyData) : okL (.tuple ds) = okLs ds := by simp only [okL]
theorem okL_lst (ds : List PyData) : okL (.list ds) = (okLs ds && (match ds.getLast? with
    | some d => isSc d
    | none => false)) := by simp only [okL]
theorem okLs_cons (d : PyData) (ds : List PyData) : okLs (d :: ds) = (okL d && okLs ds) := by simp only [okLs]
section
variable {K : PySem.W.Frag} {H H' : Hp}
theorem dps_last : ∀ {ds : List PyData} {xs : List V} {d : PyData}, DpAll K H xs ds → ds.getLast? = some d → ∃ x, xs.getLast? = some x ∧ Dp K H x d
  | [], _, _, _, e => by cases e
  | [d'], _, d, h, e => by
    cases e
    cases h with
    | cons h1 h2 =>
      cases h2
      exact ⟨_, rfl, h1⟩
  | d1 :: d2 :: ds, _, d, h, e => by
    cases h with
    | cons h1 h2 =>
      have e2 : (d2 :: ds).getLast? = some d := by
        rw [List.getLast?_cons_cons] at e
        exact e
      obtain ⟨x, hx, hd⟩ := dps_last h2 e2
      refine ⟨x, ?_, hd⟩
      cases h2 with
      | cons h3 h4 =>
        rw [List.getLast?_cons_cons]
        exact hx
theorem sc_ref {x : V} {d : PyData} (h : Dp K H x d) (s : isSc d = true) : isRefV x = false := by
  cases h <;> first | rfl | cases s
mutual
theorem dpL (e : ExL H H') : ∀ (d : PyData) (v : V), okL d = true → Dp K H v d → Dp K H' v d
  | .none, _, _, h => by cases h; exact .non
  | .bool b, _, _, h => by cases h; exact .bl b
  | .int i, _, _, h => by cases h; exact .int i
  | .str x, _, _, h => by cases h; exact .str x
  | .tuple ds, _, n, h => by
    rw [okL_tup] at n
    cases h with
    | tup h1 h2 =>
      refine .tup ?_ (dpsL e ds _ n h2)
      rcases h1 with (h1 | ⟨o, h1⟩) | h1
      · exact .inl (.inl (e _ _ h1 (.inl trivial)))
      · exact .inl (.inr ⟨o, e _ _ h1 (.inl trivial)⟩)
      · exact .inr h1
  | .list ds, _, n, h => by
    rw [okL_lst] at n
    obtain ⟨n1, n2⟩ := He.ba n
    cases h with
    | lst h1 h2 =>
      refine .lst ?_ (dpsL e ds _ n1 h2)
      rcases h1 with (h1 | ⟨o, h1⟩) | h1
      · refine .inl (.inl (e _ _ h1 (.inr ?_)))
        cases q : ds.getLast? with
        | none =>
          rw [q] at n2
          cases n2
        | some d =>
          rw [q] at n2
          obtain ⟨x, hx, hd⟩ := dps_last h2 q
          exact ⟨_, x, rfl, hx, sc_ref hd n2⟩
      · exact .inl (.inr ⟨o, e _ _ h1 (.inl trivial)⟩)
      · exact .inr h1
  | .dict _, _, _, h => by cases h
theorem dpsL (e : ExL H H') : ∀ (ds : List PyData) (vs : List V), okLs ds = true → DpAll K H vs ds → DpAll K H' vs ds
  | [], _, _, h => by cases h; exact .nil
  | d :: ds, _, n, h => by
    rw [okLs_cons] at n
    obtain ⟨n1, n2⟩ := He.ba n
    cases h with
    | cons h1 h2 => exact .cons (dpL e d _ n1 h1) (dpsL e ds _ n2 h2)
end
theorem okL_val (x : Val) : okL (valD x) = true := by cases x <;> rfl
theorem okL_st (s : St) : okL (stD s) = true := by
  unfold stD
  rw [okL_lst]
  have w : okL (wiD s.wish) = true := by
    cases s.wish with
    | none => rfl
    | some v =>
      show okL (.list [valD v]) = true
      rw [okL_lst]
      cases v <;> rfl
  simp only [okLs, okL_val, w, Bool.and_true, Bool.true_and]
  rfl
/-- a state in the heap -/
theorem st_in {v : V} {s : St} (h : Dp K H v (stD s)) : ∃ a w, v = .ref a ∧ SqL K H a [vo s.up, vo s.here, vo s.before, w, .bl s.mine] ∧ Dp K H w (wiD s.wish) := by
  obtain ⟨a, xs, rfl, h1, h2⟩ := dp_lst h
  cases h2 with | cons q1 q2 => cases q2 with | cons q3 q4 => cases q4 with | cons q5 q6 => cases q6 with | cons q7 q8 => cases q8 with | cons q9 q10 =>
  cases q10
  have e1 := dp_vo q1
  have e2 := dp_vo q3
  have e3 := dp_vo q5
  subst e1 e2 e3
  cases q9
  exact ⟨a, _, rfl, h1, q7⟩
theorem wi_none {w : V} (h : Dp K H w (wiD none)) : w = .non := by
  cases h
  rfl
theorem wi_some {w : V} {v : Val} (h : Dp K H w (wiD (some v))) : ∃ b, w = .ref b ∧ SqL K H b [vo v] := by
  obtain ⟨b, xs, rfl, h1, h2⟩ := dp_lst h
  cases h2 with | cons q1 q2 =>
  cases q2
  rw [dp_vo q1] at h1
  exact ⟨b, rfl, h1⟩
end
/-! ### a state of the law, made by the law: lists that stand as they are -/
def WiP (H : Hp) (w : V) : Option Val → Prop
  | none => w = .non
  | some x => ∃ b, w = .ref b ∧ H b = some (.lst [vo x])
def isS (s : St) : Pr := fun v H => ∃ a w, v = .ref a ∧ H a = some (.lst [vo s.up, vo s.here, vo s.before, w, .bl s.mine]) ∧ WiP H w s.wish
section
variable {K : PySem.W.Frag} {H H' : Hp} {s : St} {v w : V} {wi : Option Val}
theorem WiP.l (e : ExL H H') (h : WiP H w wi) : WiP H' w wi := by
  cases wi with
  | none => exact h
  | some x =>
    obtain ⟨b, h1, h2⟩ := h
    exact ⟨b, h1, e _ _ h2 (.inr ⟨_, vo x, rfl, rfl, by cases x <;> rfl⟩)⟩
theorem WiP.x (e : Ex H H') (h : WiP H w wi) : WiP H' w wi := h.l (lOf e)
theorem WiP.dp (h : WiP H w wi) : Dp K H w (wiD wi) := by
  cases wi with
  | none =>
    cases h
    exact .non
  | some x =>
    obtain ⟨b, rfl, h2⟩ := h
    exact .lst (SqL.of h2) (.cons (dp_of_vo _) .nil)
theorem isS.l (e : ExL H H') (h : isS s v H) : isS s v H' := by
  obtain ⟨a, w, h1, h2, h3⟩ := h
  exact ⟨a, w, h1, e _ _ h2 (.inr ⟨_, .bl s.mine, rfl, rfl, rfl⟩), h3.l e⟩
theorem isS.x (e : Ex H H') (h : isS s v H) : isS s v H' := h.l (lOf e)
theorem isS.dp (h : isS s v H) : Dp K H v (stD s) := by
  obtain ⟨a, w, rfl, h2, h3⟩ := h
  exact .lst (SqL.of h2) (.cons (dp_of_vo _) (.cons (dp_of_vo _) (.cons (dp_of_vo _) (.cons h3.dp (.cons (.bl _) .nil)))))
theorem ep_S {σ : L2.St} {tt : TA} {a b c : Val} {wi : Option Val} {m : Bool} (h : EvAs tt σ H (fun vs H1 => ∃ w, vs = [vo a, vo b, vo c, w, .bl m] ∧ WiP H1 w wi)) : EvP (tLst tt) σ H (isS ⟨a, b, c, wi, m⟩) := fun H1 e1 Q q =>
  h H1 e1 _ fun vs H2 e2 ⟨w, ev, hw⟩ => by
    subst ev
    exact ⟨sz_of (by show 5 ≤ 100000; decide), fun p hp => q (.ref p) _ (e2.trans (Ex.new hp)) ⟨p, w, rfl, upd_same, hw.x (Ex.new hp)⟩⟩
end
/-! ### the heap without some addresses -/
def cut (H : Hp) (M : List Addr) : Hp := fun b => if b ∈ M then none else H b
section
variable {H H' : Hp} {M : List Addr} {a F : Addr} {o : HO}
theorem cut_at (h : a ∉ M) : cut H M a = H a := if_neg h
theorem cut_in (h : a ∈ M) : cut H M a = none := if_pos h
theorem cut_ex : Ex (cut H M) H := fun b u h => by
  by_cases z : b ∈ M
  · rw [cut_in z] at h
    cases h
  · rw [cut_at z] at h
    exact h
theorem cut_mono (e : Ex H H') : Ex (cut H M) (cut H' M) := fun b u h => by
  by_cases z : b ∈ M
  · rw [cut_in z] at h
    cases h
  · rw [cut_at z] at h ⊢
    exact e b u h
theorem cut_upd (h : a ∈ M) : cut (L2.upd H a o) M = cut H M := by
  funext b
  by_cases z : b ∈ M
  · rw [cut_in z, cut_in z]
  · rw [cut_at z, cut_at z, upd_ne fun q => z (by rw [q]; exact h)]
theorem cut_new (h : H F = none) : cut H (F :: M) = cut H M := by
  funext b
  by_cases z : b ∈ M
  · rw [cut_in z, cut_in (List.mem_cons_of_mem _ z)]
  · by_cases q : b = F
    · rw [q, cut_in List.mem_cons_self]
      rw [q] at z
      rw [cut_at z, h]
    · rw [cut_at z, cut_at fun y => (List.mem_cons.mp y).elim q z]
theorem cut_drop : Ex (cut H (F :: M)) (cut H M) := fun b u h => by
  by_cases z : b ∈ M
  · rw [cut_in (List.mem_cons_of_mem _ z)] at h
    cases h
  · by_cases q : b = F
    · rw [q, cut_in List.mem_cons_self] at h
      cases h
    · rw [cut_at fun y => (List.mem_cons.mp y).elim q z] at h
      rw [cut_at z]
      exact h
theorem cut_exL (h : ∀ m ∈ M, ∀ u, H m = some u → ¬ ImmL u) : ExL H (cut H M) := fun b u hb i => by
  by_cases z : b ∈ M
  · exact absurd i (h b z u hb)
  · rw [cut_at z]
    exact hb
theorem nil_imm : ¬ ImmL (.lst []) := by
  rintro (h | ⟨xs, x, h1, h2, _⟩)
  · exact h
  · cases h1
    cases h2
theorem refs_imm {ys : List V} (h : ∀ y ∈ ys, isRefV y = true) : ¬ ImmL (.lst ys) := by
  rintro (q | ⟨xs, x, h1, h2, h3⟩)
  · exact q
  · cases h1
    have := h x (List.mem_of_getLast? h2)
    rw [h3] at this
    cases this
end
end Ci

set_option Elab.async false
set_option linter.all false
set_option maxRecDepth 100000
set_option maxHeartbeats 4000000
/-! _law_new, _law_spot, _law_so, _law_row, _law_carried, _law_done, _law_due, _law_served. -/
namespace Ci
open PySem PySem.Spec PyProof.Rows L2 Evl
open C8 (Cal Met Mak pe_c pe_mk pe_mt pe_mt0 pe_gc)
section
variable {K : PySem.W.Frag} {σ : L2.St} {H : Hp} {ta tb te : TE} {tt : TA} {E : XK}
/-- a new list of data -/
theorem ed_lst {ds : List PyData} (h : EvAs tt σ H (fun vs H1 => DpAll K H1 vs ds)) (few : ds.length ≤ 1000) : EvP (tLst tt) σ H (isD K (.list ds)) := fun H1 e1 Q q =>
  h H1 e1 _ fun vs H2 e2 r => ⟨sz_of (by rw [dps_len r]; omega), fun p hp => q (.ref p) _ (e2.trans (Ex.new hp)) (.lst (SqL.of upd_same) (dpsX (Ex.new hp) _ _ r))⟩
theorem el_nil : EvAs tNil σ H (fun vs H1 => DpAll K H1 vs []) := fun H1 e1 Q q => q [] H1 (Ex.refl _) .nil
theorem el_cons {d : PyData} {ds : List PyData} {tr : TA} (h : EvP te σ H (isD K d)) (hr : EvAs tr σ H (fun vs H1 => DpAll K H1 vs ds)) : EvAs (tCons te tr) σ H (fun vs H1 => DpAll K H1 vs (d :: ds)) := fun H1 e1 Q q =>
  h H1 e1 _ fun v H2 e2 hv => hr H2 (e1.trans e2) _ fun vs H3 e3 r => q (v :: vs) H3 (e2.trans e3) (.cons (dpX e3 _ _ hv) r)
theorem el_v {d : PyData} {ds : List PyData} {tr : TA} {v : V} (h : Ev te σ H v) (hv : ∀ H1, Ex H H1 → Dp K H1 v d) (hr : EvAs tr σ H (fun vs H1 => DpAll K H1 vs ds)) : EvAs (tCons te tr) σ H (fun vs H1 => DpAll K H1 vs (d :: ds)) := el_cons (ep_of h hv) hr
theorem ev_at {a : Addr} {xs : List V} {v : V} {i : Nat} (ha : Ev ta σ H (.ref a)) (hx : SqL K H a xs) (h : xs[i]? = some v) : Ev (tOp (rIxL K) ta (tC (.int (i : Nat)))) σ H v := ev_op ha ev_c (rv_ixL hx (atI_nat h))
theorem ev_atT {a : Addr} {xs : List V} {v : V} {i : Nat} (ha : Ev ta σ H (.ref a)) (hx : SqT K H a xs) (h : xs[i]? = some v) : Ev (tOp (rIxT K) ta (tC (.int (i : Nat)))) σ H v := ev_op ha ev_c (rv_ixT hx (atI_nat h))
theorem ev_indexN {to : TE} {ys : List V} {y z : V} {j : Nat} (ho : EvL to σ H ys) (hy : Ev ta σ H y) (hx : flatV y = true) (hf : ys.all flatV = true) (hz : ys[j]? = some z) (he : eqV z y = true) (hno : ∀ (m : Nat) (z' : V), m < j → ys[m]? = some z' → eqV z' y = false) : Ev (tBM K "list" (rIndex K) to (tCons ta tNil)) σ H (.int (j : Nat)) := fun H1 e1 Q q =>
  ho H1 e1 _ fun p H2 hp e2 h2 => ⟨Or.inl ⟨rfl, ys, sq_of h2⟩, hy H2 (e1.trans e2) _ fun H3 e3 => ⟨p, ys, y, j, z, rfl, rfl, SqL.of (e3 _ _ h2), hx, hf, hz, he, hno, q H3 (e2.trans e3)⟩⟩
end
section
variable {P : Program} {w : World} {K : PySem.W.Frag} {mg : Str → Option Value} {base : Heap}
def spNew (K : PySem.W.Frag) : Sp := fun vs H Q _ => ∃ x, vs = [vo x] ∧ RetP (isS (St.first x)) H Q
theorem cal_law_new (T : Txt K mg) : Cal P w K mg base 1 "_law_new" (spNew K) [] := by
  obtain ⟨fd, F⟩ := T.f_law_new
  refine calD F T.g_law_new (F.bindsN fun _ _ _ _ _ _ us hl => match us, hl with | [_], _ => rfl) sc_law_new (fun vs H Q E h => ?_) (fun cdv A outer s H vs Q E hr h => ?_)
  · obtain ⟨x, rfl, _⟩ := h
    rfl
  · obtain ⟨x, rfl, k⟩ := h
    refine ⟨_, (pss_one (ps_ret (pe_lst (pa_cons (pv 0) (pa_cons (pv 0) (pa_cons (pv 0) (pa_cons pe_non (pa_cons pe_bl pa_nil)))))))), ?_⟩
    refine sp_ret (ep_S (a := x) (b := x) (c := x) (wi := none) (m := false) fun H1 e1 Q q => ?_) k
    exact (ea_cons (ev_var rfl) (ea_cons (ev_var rfl) (ea_cons (ev_var rfl) (ea_cons ev_c (ea_cons ev_c ea_nil))))) H1 e1 _ fun H2 e2 => q _ H2 e2 ⟨.non, rfl, rfl⟩
def spotIx : Sp3 → Nat
  | .above => 0
  | .own => 1
  | .base => 2
def spSpot (K : PySem.W.Frag) : Sp := fun vs H Q _ => ∃ v s q, vs = [v, .str (sp3S q)] ∧ Dp K H v (stD s) ∧ RetV (vo (s.val q)) H Q
theorem cal_law_spot (T : Txt K mg) : Cal P w K mg base 1 "_law_spot" (spSpot K) [] := by
  obtain ⟨fd, F⟩ := T.f_law_spot
  refine calD F T.g_law_spot (F.bindsN fun _ _ _ _ _ _ us hl => match us, hl with | [_, _], _ => rfl) sc_law_spot (fun vs H Q E h => ?_) (fun cdv A outer s H vs Q E hr h => ?_)
  · obtain ⟨v, s, q, rfl, _⟩ := h
    rfl
  · obtain ⟨v, s, q, rfl, hS, k⟩ := h
    obtain ⟨a, wv, rfl, ha, _⟩ := st_in hS
    refine ⟨_, (pss_one (ps_ret (pix (kIxL K) (pv 0) (pe_bm PySem.F.plainAttrs_list PySem.F.slot_list_index PySem.F.type_list_index mt_index (pe_lst (pa_cons pe_str (pa_cons pe_str (pa_cons pe_str pa_nil)))) (pa_cons (pv 1) pa_nil))))), ?_⟩
    have ix : Ev (tBM K "list" (rIndex K) (tLst (tCons (tC (.str "above")) (tCons (tC (.str "own")) (tCons (tC (.str "base")) tNil)))) (tCons (tVar 1) tNil)) [some (.ref a), some (.str (sp3S q))] H (.int (spotIx q : Nat)) := by
      refine ev_indexN (z := .str (sp3S q)) (el_lst (vs := [.str "above", .str "own", .str "base"]) (ea_cons ev_c (ea_cons ev_c (ea_cons ev_c ea_nil))) (by show 3 ≤ 100000; decide)) (ev_var rfl) rfl (by decide +kernel) (by cases q <;> rfl) (by cases q <;> decide +kernel) fun m z' hm hz => ?_
      cases q with
      | above => exact absurd hm (Nat.not_lt_zero m)
      | own =>
        obtain rfl : m = 0 := by
          have : m < 1 := hm
          omega
        cases hz
        decide +kernel
      | base =>
        have hm2 : m < 2 := hm
        match m, hm2, hz with
        | 0, _, hz =>
          cases hz
          decide +kernel
        | 1, _, hz =>
          cases hz
          decide +kernel
    exact s_ret (ev_op (ev_var rfl) ix (rv_ixL ha (atI_nat (by cases q <;> rfl)))) fun H1 e1 => k H1 e1
theorem ev_spot {σ : L2.St} {H : Hp} {ta tb : TE} {v : V} {s : St} {q : Sp3} {E : XK} (hS : Dp K H v (stD s)) (ha : Ev ta σ H v) (hb : Ev tb σ H (.str (sp3S q))) : Ev (tCall (spSpot K) [] E (tCons ta (tCons tb tNil))) σ H (vo (s.val q)) :=
  ev_call (ea_cons ha (ea_cons hb ea_nil)) fun H1 e Q k E => ⟨v, s, q, rfl, dpX e _ _ hS, fun H2 e2 => k H2 e2⟩
def spSo (K : PySem.W.Frag) : Sp := fun vs H Q _ => ∃ v s tv t a, vs = [v, tv, .str (ansS a)] ∧ Dp K H v (stD s) ∧ Dp K H tv (testD t) ∧ RetV (.bl (s.so a t)) H Q
theorem cal_law_so (T : Txt K mg) : Cal P w K mg base 2 "_law_so" (spSo K) [] := by
  obtain ⟨fd, F⟩ := T.f_law_so
  refine calD F T.g_law_so (F.bindsN fun _ _ _ _ _ _ us hl => match us, hl with | [_, _, _], _ => rfl) sc_law_so (fun vs H Q E h => ?_) (fun cdv A outer s H vs Q E hr h => ?_)
  · obtain ⟨v, s, tv, t, a, rfl, _⟩ := h
    rfl
  · obtain ⟨v, s, tv, t, b, rfl, hS, hT, k⟩ := h
    obtain ⟨a, wv, rfl, ha, _⟩ := st_in hS
    obtain ⟨x, rfl, hx⟩ := dp_strs hT
    rw [testS_eq] at hx
    refine ⟨_, (pss_cons (ps_if (ptc op_eq (pix (kIxT K) (pv 1) pe_int) pe_str)
        (pss_one (ps_ret (pec op_eq (pe_c (cal_law_spot T) hr (by decide) rfl (pa_cons (pv 0) (pa_cons (pix (kIxT K) (pv 1) pe_int) pa_nil))) (pe_c (cal_law_spot T) hr (by decide) rfl (pa_cons (pv 0) (pa_cons (pix (kIxT K) (pv 1) pe_int) pa_nil))))))
        pss_nil)
      (pss_cons (ps_if (ptc op_eq (pix (kIxT K) (pv 1) pe_int) pe_str)
        (pss_one (ps_ret (pec op_ne (pe_c (cal_law_spot T) hr (by decide) rfl (pa_cons (pv 0) (pa_cons (pix (kIxT K) (pv 1) pe_int) pa_nil))) (pe_c (cal_law_spot T) hr (by decide) rfl (pa_cons (pv 0) (pa_cons (pix (kIxT K) (pv 1) pe_int) pa_nil))))))
        pss_nil)
      (pss_cons (ps_if (ptc op_eq (pix (kIxT K) (pv 1) pe_int) pe_str)
        (pss_one (ps_ret (pec op_notN (pe_c (cal_law_spot T) hr (by decide) rfl (pa_cons (pv 0) (pa_cons (pix (kIxT K) (pv 1) pe_int) pa_nil))) pe_non)))
        pss_nil)
      (pss_cons (ps_if (ptc op_eq (pix (kIxT K) (pv 1) pe_int) pe_str)
        (pss_one (ps_ret (pec op_isN (pe_c (cal_law_spot T) hr (by decide) rfl (pa_cons (pv 0) (pa_cons (pix (kIxT K) (pv 1) pe_int) pa_nil))) pe_non)))
        pss_nil)
      (pss_cons (ps_if (ptc op_eq (pix (kIxT K) (pv 1) pe_int) pe_str)
        (pss_one (ps_ret (pix (kIxL K) (pv 0) pe_int)))
        pss_nil)
      (pss_cons (ps_if (ptc op_eq (pix (kIxT K) (pv 1) pe_int) pe_str)
        (pss_one (ps_ret (pe_not (pix (kIxL K) (pv 0) pe_int))))
        pss_nil)
      (pss_one (ps_ret (pec op_eq (pix (kIxT K) (pv 1) pe_int) (pv 2)))))))))), ?_⟩
    have hd : ∀ {σ : L2.St} {H1 : Hp} {z : Str} {c : Bool}, Ex H H1 → σ[1]? = some (some (.ref x)) → decide (headS t = z) = c → EvT (tTest (tOp rEq (tOp (rIxT K) (tVar 1) (tC (.int 0))) (tC (.str z)))) σ H1 c := fun e hσ hc => et_eqs (ev_atT (i := 0) (ev_var hσ) (ex_t e hx) rfl) ev_c hc
    have sp : ∀ {σ : L2.St} {H1 : Hp} {q : Sp3} {i : Nat}, Ex H H1 → σ[0]? = some (some (.ref a)) → σ[1]? = some (some (.ref x)) → ((headS t :: (spotsT t).map sp3S).map V.str)[i]? = some (.str (sp3S q)) → Ev (tCall (spSpot K) [] C8.E0 (tCons (tVar 0) (tCons (tOp (rIxT K) (tVar 1) (tC (.int (i : Nat)))) tNil))) σ H1 (vo (s.val q)) := fun {σ H1 q i} e h0 h1 hi =>
      ev_spot (dpX e _ _ hS) (ev_var h0) (ev_atT (ev_var h1) (ex_t e hx) hi)
    cases t with
    | same q1 q2 =>
      refine q_when (hd (Ex.refl _) rfl (c := true) (by first | decide +kernel | (cases q1 <;> decide +kernel) | (cases q1 <;> cases q2 <;> decide +kernel))) (fun _ H1 e1 => ?_) (fun h => by cases h)
      exact s_ret (ev_eqv (sp (i := 1) e1 rfl rfl rfl) (sp (i := 2) e1 rfl rfl rfl)) fun H2 e2 => k H2 (e1.trans e2)
    | unlike q1 q2 =>
      refine q_when (hd (Ex.refl _) rfl (c := false) (by first | decide +kernel | (cases q1 <;> decide +kernel) | (cases q1 <;> cases q2 <;> decide +kernel))) (fun h => by cases h) (fun _ H1 e1 => ?_)
      refine q_when (hd e1 rfl (c := true) (by first | decide +kernel | (cases q1 <;> decide +kernel) | (cases q1 <;> cases q2 <;> decide +kernel))) (fun _ H2 e2 => ?_) (fun h => by cases h)
      have e := e1.trans e2
      exact s_ret (ev_nev (sp (i := 1) e rfl rfl rfl) (sp (i := 2) e rfl rfl rfl)) fun H3 e3 => k H3 (e.trans e3)
    | there q1 =>
      refine q_when (hd (Ex.refl _) rfl (c := false) (by first | decide +kernel | (cases q1 <;> decide +kernel) | (cases q1 <;> cases q2 <;> decide +kernel))) (fun h => by cases h) (fun _ H1 e1 => ?_)
      refine q_when (hd e1 rfl (c := false) (by first | decide +kernel | (cases q1 <;> decide +kernel) | (cases q1 <;> cases q2 <;> decide +kernel))) (fun h => by cases h) (fun _ H2 e2 => ?_)
      refine q_when (hd (e1.trans e2) rfl (c := true) (by first | decide +kernel | (cases q1 <;> decide +kernel) | (cases q1 <;> cases q2 <;> decide +kernel))) (fun _ H3 e3 => ?_) (fun h => by cases h)
      have e := (e1.trans e2).trans e3
      refine s_ret (ev_is (ev_op (sp (i := 1) e rfl rfl rfl) ev_c rv_notN) (congrArg V.bl ?_)) fun H4 e4 => k H4 (e.trans e4)
      rw [vo_non]
      show (!(s.val q1).isNone) = (s.val q1).isSome
      cases s.val q1 <;> rfl
    | gone q1 =>
      refine q_when (hd (Ex.refl _) rfl (c := false) (by first | decide +kernel | (cases q1 <;> decide +kernel) | (cases q1 <;> cases q2 <;> decide +kernel))) (fun h => by cases h) (fun _ H1 e1 => ?_)
      refine q_when (hd e1 rfl (c := false) (by first | decide +kernel | (cases q1 <;> decide +kernel) | (cases q1 <;> cases q2 <;> decide +kernel))) (fun h => by cases h) (fun _ H2 e2 => ?_)
      refine q_when (hd (e1.trans e2) rfl (c := false) (by first | decide +kernel | (cases q1 <;> decide +kernel) | (cases q1 <;> cases q2 <;> decide +kernel))) (fun h => by cases h) (fun _ H3 e3 => ?_)
      refine q_when (hd ((e1.trans e2).trans e3) rfl (c := true) (by first | decide +kernel | (cases q1 <;> decide +kernel) | (cases q1 <;> cases q2 <;> decide +kernel))) (fun _ H4 e4 => ?_) (fun h => by cases h)
      have e := ((e1.trans e2).trans e3).trans e4
      exact s_ret (ev_isN (sp (i := 1) e rfl rfl rfl)) fun H5 e5 => k H5 (e.trans e5)
    | mine =>
      refine q_when (hd (Ex.refl _) rfl (c := false) (by first | decide +kernel | (cases q1 <;> decide +kernel) | (cases q1 <;> cases q2 <;> decide +kernel))) (fun h => by cases h) (fun _ H1 e1 => ?_)
      refine q_when (hd e1 rfl (c := false) (by first | decide +kernel | (cases q1 <;> decide +kernel) | (cases q1 <;> cases q2 <;> decide +kernel))) (fun h => by cases h) (fun _ H2 e2 => ?_)
      refine q_when (hd (e1.trans e2) rfl (c := false) (by first | decide +kernel | (cases q1 <;> decide +kernel) | (cases q1 <;> cases q2 <;> decide +kernel))) (fun h => by cases h) (fun _ H3 e3 => ?_)
      refine q_when (hd ((e1.trans e2).trans e3) rfl (c := false) (by first | decide +kernel | (cases q1 <;> decide +kernel) | (cases q1 <;> cases q2 <;> decide +kernel))) (fun h => by cases h) (fun _ H4 e4 => ?_)
      have e := ((e1.trans e2).trans e3).trans e4
      refine q_when (hd e rfl (c := true) (by first | decide +kernel | (cases q1 <;> decide +kernel) | (cases q1 <;> cases q2 <;> decide +kernel))) (fun _ H5 e5 => ?_) (fun h => by cases h)
      exact s_ret (ev_at (i := 4) (ev_var rfl) (ex_l (e.trans e5) ha) rfl) fun H6 e6 => k H6 ((e.trans e5).trans e6)
    | free =>
      refine q_when (hd (Ex.refl _) rfl (c := false) (by first | decide +kernel | (cases q1 <;> decide +kernel) | (cases q1 <;> cases q2 <;> decide +kernel))) (fun h => by cases h) (fun _ H1 e1 => ?_)
      refine q_when (hd e1 rfl (c := false) (by first | decide +kernel | (cases q1 <;> decide +kernel) | (cases q1 <;> cases q2 <;> decide +kernel))) (fun h => by cases h) (fun _ H2 e2 => ?_)
      refine q_when (hd (e1.trans e2) rfl (c := false) (by first | decide +kernel | (cases q1 <;> decide +kernel) | (cases q1 <;> cases q2 <;> decide +kernel))) (fun h => by cases h) (fun _ H3 e3 => ?_)
      refine q_when (hd ((e1.trans e2).trans e3) rfl (c := false) (by first | decide +kernel | (cases q1 <;> decide +kernel) | (cases q1 <;> cases q2 <;> decide +kernel))) (fun h => by cases h) (fun _ H4 e4 => ?_)
      have e := ((e1.trans e2).trans e3).trans e4
      refine q_when (hd e rfl (c := false) (by first | decide +kernel | (cases q1 <;> decide +kernel) | (cases q1 <;> cases q2 <;> decide +kernel))) (fun h => by cases h) (fun _ H5 e5 => ?_)
      refine q_when (hd (e.trans e5) rfl (c := true) (by first | decide +kernel | (cases q1 <;> decide +kernel) | (cases q1 <;> cases q2 <;> decide +kernel))) (fun _ H6 e6 => ?_) (fun h => by cases h)
      have e' := (e.trans e5).trans e6
      exact s_ret (ev_notV (ev_at (i := 4) (ev_var rfl) (ex_l e' ha) rfl)) fun H7 e7 => k H7 (e'.trans e7)
    | yes =>
      refine q_when (hd (Ex.refl _) rfl (c := false) (by first | decide +kernel | (cases q1 <;> decide +kernel) | (cases q1 <;> cases q2 <;> decide +kernel))) (fun h => by cases h) (fun _ H1 e1 => ?_)
      refine q_when (hd e1 rfl (c := false) (by first | decide +kernel | (cases q1 <;> decide +kernel) | (cases q1 <;> cases q2 <;> decide +kernel))) (fun h => by cases h) (fun _ H2 e2 => ?_)
      refine q_when (hd (e1.trans e2) rfl (c := false) (by first | decide +kernel | (cases q1 <;> decide +kernel) | (cases q1 <;> cases q2 <;> decide +kernel))) (fun h => by cases h) (fun _ H3 e3 => ?_)
      refine q_when (hd ((e1.trans e2).trans e3) rfl (c := false) (by first | decide +kernel | (cases q1 <;> decide +kernel) | (cases q1 <;> cases q2 <;> decide +kernel))) (fun h => by cases h) (fun _ H4 e4 => ?_)
      have e := ((e1.trans e2).trans e3).trans e4
      refine q_when (hd e rfl (c := false) (by first | decide +kernel | (cases q1 <;> decide +kernel) | (cases q1 <;> cases q2 <;> decide +kernel))) (fun h => by cases h) (fun _ H5 e5 => ?_)
      refine q_when (hd (e.trans e5) rfl (c := false) (by first | decide +kernel | (cases q1 <;> decide +kernel) | (cases q1 <;> cases q2 <;> decide +kernel))) (fun h => by cases h) (fun _ H6 e6 => ?_)
      have e' := (e.trans e5).trans e6
      exact s_ret (ev_eqs (c := b) (ev_atT (i := 0) (ev_var rfl) (ex_t e' hx) rfl) (ev_var rfl) (by cases b <;> decide +kernel)) fun H7 e7 => k H7 (e'.trans e7)
    | no =>
      refine q_when (hd (Ex.refl _) rfl (c := false) (by first | decide +kernel | (cases q1 <;> decide +kernel) | (cases q1 <;> cases q2 <;> decide +kernel))) (fun h => by cases h) (fun _ H1 e1 => ?_)
      refine q_when (hd e1 rfl (c := false) (by first | decide +kernel | (cases q1 <;> decide +kernel) | (cases q1 <;> cases q2 <;> decide +kernel))) (fun h => by cases h) (fun _ H2 e2 => ?_)
      refine q_when (hd (e1.trans e2) rfl (c := false) (by first | decide +kernel | (cases q1 <;> decide +kernel) | (cases q1 <;> cases q2 <;> decide +kernel))) (fun h => by cases h) (fun _ H3 e3 => ?_)
      refine q_when (hd ((e1.trans e2).trans e3) rfl (c := false) (by first | decide +kernel | (cases q1 <;> decide +kernel) | (cases q1 <;> cases q2 <;> decide +kernel))) (fun h => by cases h) (fun _ H4 e4 => ?_)
      have e := ((e1.trans e2).trans e3).trans e4
      refine q_when (hd e rfl (c := false) (by first | decide +kernel | (cases q1 <;> decide +kernel) | (cases q1 <;> cases q2 <;> decide +kernel))) (fun h => by cases h) (fun _ H5 e5 => ?_)
      refine q_when (hd (e.trans e5) rfl (c := false) (by first | decide +kernel | (cases q1 <;> decide +kernel) | (cases q1 <;> cases q2 <;> decide +kernel))) (fun h => by cases h) (fun _ H6 e6 => ?_)
      have e' := (e.trans e5).trans e6
      exact s_ret (ev_eqs (c := !b) (ev_atT (i := 0) (ev_var rfl) (ex_t e' hx) rfl) (ev_var rfl) (by cases b <;> decide +kernel)) fun H7 e7 => k H7 (e'.trans e7)
end
end Ci

set_option Elab.async false
set_option linter.all false
set_option maxRecDepth 100000
set_option maxHeartbeats 4000000
/-! _law_row, _law_carried, _law_done, _law_due, _law_served. -/
namespace Ci
open PySem PySem.Spec PyProof.Rows L2 Evl
open C8 (Cal Met Mak pe_c pe_mk pe_mt pe_mt0 pe_gc)
theorem lay_all {α : Type} {f : α → PyData} (h : ∀ a, PyData.canLay0 (f a) = true ∧ PyData.depth (f a) ≤ 8) : ∀ l : List α, PyData.canLayAll0 (l.map f) = true ∧ PyData.depthAll (l.map f) ≤ 8
  | [] => ⟨rfl, Nat.zero_le _⟩
  | a :: l => by
    obtain ⟨h1, h2⟩ := lay_all h l
    constructor
    · simp only [List.map_cons, PyData.canLayAll0, (h a).1, h1, Bool.and_self]
    · simp only [List.map_cons, PyData.depthAll]
      exact Nat.max_le.mpr ⟨(h a).2, h2⟩
theorem sh_list {α : Type} {f : α → PyData} (h : ∀ a, PyData.canLay0 (f a) = true ∧ PyData.depth (f a) ≤ 8) (l : List α) : SeqAt.shaped (.list (l.map f)) = true := by
  unfold SeqAt.shaped
  have q := lay_all h l
  simp only [PyData.canLay0, q.1, Bool.true_and]
  refine decide_eq_true ?_
  simp only [PyData.depth]
  omega
theorem lay_test (t : Test) : PyData.canLay0 (testD t) = true ∧ PyData.depth (testD t) ≤ 8 := by
  cases t with
  | same p q => cases p <;> cases q <;> decide +kernel
  | unlike p q => cases p <;> cases q <;> decide +kernel
  | there p => cases p <;> decide +kernel
  | gone p => cases p <;> decide +kernel
  | _ => decide +kernel
section
variable {K : PySem.W.Frag} {σ : L2.St} {H : Hp} {ta tb te : TE} {tt : TA} {E : XK} {α : Type} {f : α → PyData} {l : List α}
theorem et_eqNilD (sh : SeqAt.shaped (.list (l.map f)) = true) (ha : EvP te σ H (LsP (fun a => isD K (f a)) l)) : EvT (tTest (tOp (rEqD K) te (tLst tNil))) σ H l.isEmpty := fun H1 e1 Q q =>
  ha H1 e1 _ fun v H2 e2 ⟨p, ys, ev, hp, hq⟩ => ⟨sz_of (by decide), fun r hr => by
    subst ev
    have en : Ex H2 (L2.upd H2 r (.lst [])) := Ex.new hr
    refine ⟨_, _, .lst (SqL.of (en _ _ hp)) (dpsX en _ _ (dps_of (f := f) hq)), .lst (SqL.of upd_same) .nil, sh, by decide +kernel, _, rfl, ?_⟩
    rw [eqv_nil]
    have e : (l.map f).isEmpty = l.isEmpty := by cases l <;> rfl
    rw [e]
    exact q _ (e2.trans en)⟩
end
theorem rows_find {s : St} {a : Bool} {rows : List Row} {i : Nat} {row : Row} (h : rows[i]? = some row) : rowIx s a (rows.drop i) i = if s.fits a row then (i : Int) else rowIx s a (rows.drop (i + 1)) (i + 1) := by
  obtain ⟨hi, e⟩ := List.getElem?_eq_some_iff.mp h
  rw [List.drop_eq_getElem_cons hi, e]
  rfl
theorem fits_empty (s : St) (a : Bool) (r : Row) : (r.tests.filter fun t => !s.so a t).isEmpty = s.fits a r := by
  unfold St.fits
  induction r.tests with
  | nil => rfl
  | cons t ts ih =>
    rw [List.filter_cons, List.all_cons]
    cases s.so a t with
    | true => exact ih
    | false => rfl
section
variable {P : Program} {w : World} {K : PySem.W.Frag} {mg : Str → Option Value} {base : Heap}
/-- parts of a rule: (notes, rows) -/
def ptD (n : Nts) (rows : List Row) : PyData := .tuple [strsD (ntsS n), rowsD rows]
theorem noL_pt (n : Nts) (rows : List Row) : noL (ptD n rows) = true := by
  unfold ptD
  rw [noL_tup, noLs_cons, noLs_cons, noLs_nil, noL_strs, noL_rows]
  rfl
def RwOk (rows : List Row) : Prop := rows.length ≤ 8 ∧ ∀ r ∈ rows, r.tests.length ≤ 4
def spLRow (K : PySem.W.Frag) : Sp := fun vs H Q _ => ∃ pv n rows v s a, vs = [pv, v, .str (ansS a)] ∧ Dp K H pv (ptD n rows) ∧ RwOk rows ∧ Dp K H v (stD s) ∧ RetV (.int (rowIx s a rows 0)) H Q
theorem cal_law_row (T : Txt K mg) : Cal P w K mg base 3 "_law_row" (spLRow K) [] := by
  obtain ⟨fd, F⟩ := T.f_law_row
  refine calD F T.g_law_row (F.bindsN fun _ _ _ _ _ _ us hl => match us, hl with | [_, _, _], _ => rfl) sc_law_row (fun vs H Q E h => ?_) (fun cdv A outer s H vs Q E hr h => ?_)
  · obtain ⟨pv, n, rows, v, s, a, rfl, _⟩ := h
    rfl
  · obtain ⟨pv, n, rows, v, s, a, rfl, hP, ok, hS, k⟩ := h
    obtain ⟨p, ps, rfl, hp, hpd⟩ := dp_tup hP
    cases hpd with | cons p1 p2 => cases p2 with | cons p3 p4 =>
    cases p4
    obtain ⟨b, xs, rfl, hx, hd⟩ := dp_tup p3
    have lx : xs.length = rows.length := by rw [dps_len hd, List.length_map]
    refine ⟨_, (pss_cons (ps_for PassesOwn.never rfl (pi_range1 (by rfl) T.z_range (pa_cons (pe_callB (kLen K) (by rfl) T.z_len PySem.boot_len (pa_cons (pix (kIxT K) (pv 0) pe_int) pa_nil)) pa_nil)) (pg_name (i := 3) sc_law_row.nd rfl (Or.inl rfl))
        (pss_one (ps_if (ptc (kEqD K hr) (pe_lcT (own := [("_law_test", 4)]) (by rfl) sc_law_row.nd (pi_tup (pix (kIxT K) (pix (kIxT K) (pix (kIxT K) (pv 0) pe_int) (pv 3)) pe_int)) (blkOk_by (own := [("_law_test", 4)]) (N := n_law_row) (sc := defScope s_law_row) (by decide +kernel)) (fun _ _ _ _ _ => (pg_name (i := 4) sc_law_row.nd rfl (Or.inl rfl))) (fun _ _ _ _ _ => (pt_not (pt_val (pe_c (cal_law_so T) hr (by decide) rfl (pa_cons (pv 1) (pa_cons (pv 4) (pa_cons (pv 2) pa_nil))))))) (fun _ _ _ _ _ => (pv 4))) (pe_lst pa_nil))
          (pss_one (ps_ret (pv 3)))
          pss_nil)))
      (pss_one (ps_ret (pe_un un_neg pe_int)))), ?_⟩
    have tab : ∀ {σ : L2.St} {H1 : Hp}, Ex H H1 → σ[0]? = some (some (.ref p)) → Ev (tOp (rIxT K) (tVar 0) (tC (.int 1))) σ H1 (.ref b) := fun e hσ => ev_atT (i := 1) (ev_var hσ) (ex_t e hp) rfl
    refine (s_for (as := List.range rows.length) (itt_range (ea_cons (ev_is (ev_lenT (tab (Ex.refl _) rfl) hx) (by rw [lx])) ea_nil) (by have := ok.1; omega)) (fun H2 i σ' H' => Ex H2 H' ∧ (∃ u3 u4, σ' = [some (.ref p), some v, some (.str (ansS a)), u3, u4]) ∧ rowIx s a rows 0 = rowIx s a (rows.drop i) i) (fun H2 e2 => ⟨Ex.refl _, ⟨none, none, rfl⟩, rfl⟩) (fun H2 i σ' H' h => tOf h.1) ?_ ?_)
    · rintro H2 i j x σ' Ha Hb e2 hj ⟨ea, ⟨u3, u4, rfl⟩, hix⟩ eab ⟨rfl, rfl⟩
      have hi : j < rows.length := by
        have := (List.getElem?_eq_some_iff.mp hj).1
        rwa [List.length_range] at this
      obtain ⟨row, hrow⟩ : ∃ row, rows[j]? = some row := ⟨_, List.getElem?_eq_getElem hi⟩
      obtain ⟨y, hy, dy⟩ := dps_at hd (d := rowD row) (i := j) (by rw [List.getElem?_map, hrow]; rfl)
      obtain ⟨c, zs, rfl, hc, hcd⟩ := dp_tup dy
      cases hcd with | cons q1 q2 => cases q2 with | cons q3 q4 =>
      cases q4
      obtain ⟨tt, ts, rfl, htt, htd⟩ := dp_tup q1
      have e := (e2.trans ea).trans eab
      refine s_when (b := s.fits a row) (et_is (et_eqNilD (f := testD) (l := (row.tests.filter fun t => !s.so a t).map fun t => t) (sh_list lay_test _) (ep_comp (R := fun t => isD K (testD t)) row.tests (fun t => !s.so a t) (fun t => t) (fun t v H' => Dp K H' v (testD t)) (fun t σ2 H' => ∃ u, σ2[4]? = some (some u) ∧ σ2[1]? = some (some v) ∧ σ2[2]? = some (some (.str (ansS a))) ∧ Dp K H' u (testD t)) (it_tup (K := K) (ev_atT (i := 0) (ev_op (tab e rfl) (ev_var rfl) (rv_ixT (ex_t e hx) (atI_nat hy))) (ex_t e hc) rfl) (ex_t e htt) (Paired.mapP (dps_paired testD (fun t => noL_strs _) htd) fun _ _ h H1 e1 => h H1 (tOf (e.trans e1)))) ?_ ?_ ?_ ?_ ?_)) ?_) (fun hf H5 e5 => ?_) (fun hf H5 e5 => ?_)
      · rintro t u H' _ _ D Kt kt
        exact kt _ rfl ⟨u, rfl, rfl, rfl, D⟩
      · rintro t σ2 H' _ e' ⟨u, h4, h1, h2, D⟩
        exact et_not (et_B (ev_call (sp := spSo K) (ea_cons (ev_var h1) (ea_cons (ev_var h4) (ea_cons (ev_var h2) ea_nil))) fun H6 e6 Q k E => ⟨v, s, u, t, a, rfl, dpX ((e.trans e').trans e6) _ _ hS, dpX e6 _ _ D, fun H7 e7 => k H7 e7⟩))
      · rintro t σ2 H' _ _ ⟨u, h4, h1, h2, D⟩ _
        exact ed_v (ev_var h4) (noL_strs _) D
      · exact fun t => stb_isD K (noL_strs _)
      · exact Nat.le_trans (ok.2 row (List.mem_of_getElem? hrow)) (by decide)
      · rw [List.map_id']
        exact fits_empty s a row
      · have e0 : rowIx s a rows 0 = (j : Int) := by rw [hix, rows_find hrow, if_pos hf]
        rw [e0] at k
        exact s_ret (ev_var rfl) fun H6 e6 => k H6 ((e.trans e5).trans e6)
      · exact ⟨(ea.trans eab).trans e5, ⟨_, _, rfl⟩, by rw [hix, rows_find hrow, if_neg (by rw [hf]; decide)]⟩
    · rintro H2 σ' H' e2 ⟨ea, ⟨u3, u4, rfl⟩, hix⟩
      refine s_ret (σ := [some (.ref p), some v, some (.str (ansS a)), u3, u4]) (ev_un ev_c ru_neg) fun H6 e6 => ?_
      have e0 : rowIx s a rows 0 = -1 := by
        rw [hix, List.length_range, List.drop_length]
        rfl
      rw [e0] at k
      exact k H6 ((e2.trans ea).trans e6)
end
end Ci

set_option Elab.async false
set_option linter.all false
set_option maxRecDepth 100000
set_option maxHeartbeats 4000000
/-! _law_carried, _law_done, _law_due, _law_served. -/
namespace Ci
open PySem PySem.Spec PyProof.Rows L2 Evl
open C8 (Cal Met Mak pe_c pe_mk pe_mt pe_mt0 pe_gc)
section
variable {K : PySem.W.Frag} {σ : L2.St} {H : Hp} {ta tb te : TE} {tt : TA} {E : XK} {D : Ends} {tz : TS} {xs ys : List V} {x y v : V}
theorem el_listO {a : Addr} (ha : Ev ta σ H (.ref a)) (hx : SqL K H a xs) : EvL (tCB (rLo K) (tCons ta tNil)) σ H xs := fun H1 e Q q =>
  ha H1 e _ fun H2 e2 => ⟨a, xs, rfl, .inl (ex_l (e.trans e2) hx), fun l hl => q l _ (fresh_back e2 hl) (e2.trans (Ex.new hl)) upd_same⟩
theorem q_parL {i j : Nat} (h1 : Ev ta σ H v) (h2 : EvL tb σ H xs) (k : ∀ p H1, H p = none → Ex H H1 → H1 p = some (.lst xs) → tz D ((σ.set i (some v)).set j (some (.ref p))) H1) : tSeq (tPar i j (tCons ta (tCons tb tNil))) tz D σ H :=
  h1 H (Ex.refl _) _ fun H1 e1 => h2 H1 e1 _ fun p H2 hp e2 h2 => ⟨v, .ref p, rfl, k p H2 (fresh_back e1 hp) (e1.trans e2) h2⟩
theorem s_set2 {l : Addr} {n i j : Nat} (hl : H l = some (.lst xs)) (h : EvA tt σ H [x, y]) (hi : i < xs.length) (hj : j < xs.length) (hσ : σ[n]? = some (some (.ref l))) (k : ∀ H1, Ex H H1 → D.nx σ (L2.upd H1 l (.lst ((xs.set i x).set j y)))) :
    tAsg (tTup tt) (gTup K 2 (gCons (gSub (tVar n) (tC (.int (i : Nat))) rSetL) (gCons (gSub (tVar n) (tC (.int (j : Nat))) rSetL) gNil))) D σ H :=
  h H (Ex.refl _) _ fun H1 e1 => ⟨sz_of (by show 2 ≤ 100000; decide), fun p hp => ⟨p, [x, y], rfl, SqT.of upd_same, rfl, x, [y], rfl, .ref l, hσ, l, xs, (i : Nat), i, rfl, rfl, Ex.new hp _ _ (e1 _ _ hl), ixN_nat hi, y, [], rfl, .ref l, hσ, l, xs.set i x, (j : Nat), j, rfl, rfl, upd_same, ixN_nat (by rw [List.length_set]; exact hj), rfl, by
    rw [L2.upd_upd]
    exact k _ (e1.trans (Ex.new hp))⟩⟩
theorem ed_L {ds : List PyData} (h : EvL te σ H xs) (hd : ∀ H1, Ex H H1 → DpAll K H1 xs ds) : EvP te σ H (isD K (.list ds)) := fun H1 e Q q => h H1 e _ fun p H2 hp e2 h2 => q (.ref p) H2 e2 (.lst (SqL.of h2) (hd H2 (e.trans e2)))
theorem eS_L {a b c : Val} {wi : Option Val} {m : Bool} (h : EvL te σ H xs) (hd : ∀ H1, Ex H H1 → ∃ w, xs = [vo a, vo b, vo c, w, .bl m] ∧ WiP H1 w wi) : EvP te σ H (isS ⟨a, b, c, wi, m⟩) := fun H1 e Q q => h H1 e _ fun p H2 hp e2 h2 => by
  obtain ⟨w, ex, hw⟩ := hd H2 (e.trans e2)
  subst ex
  exact q (.ref p) H2 e2 ⟨p, w, rfl, h2, hw⟩
theorem et_gti {i j : Int} (h : Ev ta σ H (.int i)) (h2 : Ev tb σ H (.int j)) {c : Bool} (hc : decide (i > j) = c) : EvT (tTest (tOp (rI0 fun i j => .bl (decide (i > j))) ta tb)) σ H c := by
  subst hc
  exact et_test (ev_op h h2 rv_I0)
theorem ev_inN {z a b : Str} {c : Bool} (h1 : Ev te σ H (.str z)) (h2 : inV (.str z) [.str a, .str b] = c) : EvT (tTest (tOp (rIn K false) te (tLst (tCons (tC (.str a)) (tCons (tC (.str b)) tNil))))) σ H c :=
  et_is (et_test (ev_opL h1 (el_lst (ea_cons ev_c (ea_cons ev_c ea_nil)) (by show 2 ≤ 100000; decide)) fun _ _ h _ => rv_isL (SqL.of h) rfl rfl)) h2
end
section
variable {P : Program} {w : World} {K : PySem.W.Frag} {mg : Str → Option Value} {base : Heap}
def spLCar (K : PySem.W.Frag) : Sp := fun vs H Q _ => ∃ pq n rows v s a, vs = [pq, v, .str (ansS a)] ∧ Dp K H pq (ptD n rows) ∧ RwOk rows ∧ isS s v H ∧ RetP (isS (s.carried rows a)) H Q
theorem cal_law_carried (T : Txt K mg) : Cal P w K mg base 4 "_law_carried" (spLCar K) [] := by
  obtain ⟨fd, F⟩ := T.f_law_carried
  refine calD F T.g_law_carried (F.bindsN fun _ _ _ _ _ _ us hl => match us, hl with | [_, _, _], _ => rfl) sc_law_carried (fun vs H Q E h => ?_) (fun cdv A outer s H vs Q E hr h => ?_)
  · obtain ⟨pq, n, rows, v, s, a, rfl, _⟩ := h
    rfl
  · obtain ⟨pq, n, rows, v, s, a, rfl, hP, ok, hS, k⟩ := h
    obtain ⟨sa, wv, rfl, hsa0, hw⟩ := id hS
    have hsa : SqL K H sa _ := SqL.of hsa0
    obtain ⟨p, ps, rfl, hp, hpd⟩ := dp_tup hP
    cases hpd with | cons p1 p2 => cases p2 with | cons p3 p4 =>
    cases p4
    obtain ⟨b, xs, rfl, hx, hd⟩ := dp_tup p3
    refine ⟨_, (pss_cons (ps_set (i := 3) sc_law_carried.nd rfl (Or.inl rfl) (pe_c (cal_law_row T) hr (by decide) rfl (pa_cons (pv 0) (pa_cons (pv 1) (pa_cons (pv 2) pa_nil)))))
      (pss_cons (ps_par (i := 4) (j := 5) (by rfl) sc_law_carried.nd rfl rfl (by decide) rfl rfl (pa_cons (pe_ifExp (ptc op_lt (pv 3) pe_int) pe_str (pix (kIxT K) (pix (kIxT K) (pix (kIxT K) (pv 0) pe_int) (pv 3)) pe_int)) (pa_cons (pe_callTy (kListOf K) (by rfl) T.z_list (by decide +kernel) (pa_cons (pv 1) pa_nil)) pa_nil)) (by rfl))
      (pss_cons (ps_if (ptc op_eq (pv 4) pe_str)
        (pss_one (ps_asg (pe_tup (pa_cons (pix (kIxL K) (pv 1) pe_int) (pa_cons pe_bl pa_nil))) (kTup K (n := 2) (pgs_cons (pg_sub (pv 5) pe_int set_list) (pgs_cons (pg_sub (pv 5) pe_int set_list) pgs_nil)))))
        pss_nil)
      (pss_cons (ps_if (ptc op_eq (pv 4) pe_str)
        (pss_one (ps_asg pe_non (pg_sub (pv 5) pe_int set_list)))
        pss_nil)
      (pss_cons (ps_if (ptc op_eq (pv 4) pe_str)
        (pss_one (ps_asg pe_bl (pg_sub (pv 5) pe_int set_list)))
        pss_nil)
      (pss_cons (ps_asg (pix (kIxL K) (pv 1) pe_int) (pg_sub (pv 5) pe_int set_list))
      (pss_one (ps_ret (pv 5))))))))), ?_⟩
    refine q_asg (v := .int (rowIx s a rows 0)) (ev_call (sp := spLRow K) (ea_cons (ev_var rfl) (ea_cons (ev_var rfl) (ea_cons (ev_var rfl) ea_nil))) fun H1 e Q k E => ⟨_, n, rows, _, s, a, rfl, dpX e _ _ hP, ok, (hS.x e).dp, fun H2 e2 => k H2 e2⟩) fun H1 e1 => ?_
    have tab : ∀ {σ : L2.St} {H1 : Hp}, Ex H H1 → σ[0]? = some (some (.ref p)) → Ev (tOp (rIxT K) (tVar 0) (tC (.int 1))) σ H1 (.ref b) := fun e hσ => ev_atT (i := 1) (ev_var hσ) (ex_t e hp) rfl
    refine q_parL (v := .str (actS (actOf s a rows))) ?_ (el_listO (ev_var rfl) (ex_l e1 hsa)) fun l H2 hl0 e2 hl => ?_
    · rcases rowIx_at s a rows 0 with ⟨h1, h2⟩ | ⟨i, row, h1, h2, h3⟩
      · exact ev_if (et_lt0 (ev_var rfl) (b := true) (by rw [h1]; decide)) (fun _ => by rw [h2]; exact ev_c) fun h => by cases h
      · rw [Nat.zero_add] at h1
        refine ev_if (et_lt0 (ev_var rfl) (b := false) (by rw [h1]; exact decide_eq_false (by omega))) (fun h => by cases h) fun _ => ?_
        obtain ⟨y, hy, hdy⟩ := dps_at (i := i) (d := rowD row) hd (by rw [List.getElem?_map, h2]; rfl)
        obtain ⟨c, zs, rfl, hc, hcd⟩ := dp_tup hdy
        cases hcd with
        | cons q1 q2 => cases q2 with
          | cons q3 q4 =>
            cases q4
            cases q3
            rw [h3]
            refine ev_op (ev_op (tab e1 rfl) (ev_var rfl) (rv_ixT (ex_t e1 hx) ?_)) ev_c (rv_ixT (ex_t e1 hc) rfl)
            rw [h1]
            exact atI_nat hy
    have l0 : H l = none := fresh_back e1 hl0
    have e := e1.trans e2
    have fin : ∀ {H4 : Hp} {m : Bool} {own : Val}, Ex H H4 → H4 l = some (.lst [vo s.up, vo own, vo s.before, wv, .bl m]) → s.carried rows a = ⟨s.up, own, s.up, s.wish, m⟩ → tSeq (tAsg (tOp (rIxL K) (tVar 1) (tC (.int 0))) (gSub (tVar 5) (tC (.int 2)) rSetL)) (tRet (tVar 5)) { nx := fun _ H' => Q .non H', rt := Q } [some (.ref p), some (.ref sa), some (.str (ansS a)), some (.int (rowIx s a rows 0)), some (.str (actS (actOf s a rows))), some (.ref l)] H4 := fun {H4 m own} e4 h4 ec => by
      refine q_setL (j := 2) h4 (ev_at (i := 0) (ev_var rfl) (ex_l e4 hsa) rfl) (ev_var rfl) ev_c (by show 2 < 5; decide) fun H5 e5 => ?_
      refine ⟨.ref l, rfl, ?_⟩
      have eF : Ex H (L2.upd H5 l (.lst ([vo s.up, vo own, vo s.before, wv, .bl m].set 2 (vo s.up)))) := Ex.mut (e4.trans e5) l0
      refine k _ _ eF ?_
      rw [ec]
      exact ⟨l, wv, rfl, upd_same, hw.x eF⟩
    have ec : s.carried rows a = s.acted (actOf s a rows) := rfl
    cases hA : actOf s a rows with
    | take =>
      rw [hA] at ec fin
      refine q_if (et_eqs (ev_var rfl) ev_c (c := true) (by decide +kernel)) (fun _ H4 e4 => ?_) fun h => by cases h
      refine s_set2 (l := l) (i := 1) (j := 4) (e4 _ _ hl) (ea_cons (ev_at (i := 0) (ev_var rfl) (ex_l (e.trans e4) hsa) rfl) (ea_cons ev_c ea_nil)) (by show 1 < 5; decide) (by show 4 < 5; decide) rfl fun H5 e5 => ?_
      have eF : ∀ o, Ex H (L2.upd H5 l o) := fun o => Ex.mut ((e.trans e4).trans e5) l0
      refine q_when (et_eqs (ev_var rfl) ev_c (c := false) (by decide +kernel)) (fun h => by cases h) fun _ H6 e6 => ?_
      refine q_when (et_eqs (ev_var rfl) ev_c (c := false) (by decide +kernel)) (fun h => by cases h) fun _ H7 e7 => ?_
      exact fin (((eF _).trans e6).trans e7) (e7 _ _ (e6 _ _ upd_same)) ec
    | keep =>
      rw [hA] at ec fin
      refine q_when (et_eqs (ev_var rfl) ev_c (c := false) (by decide +kernel)) (fun h => by cases h) fun _ H4 e4 => ?_
      refine q_when (et_eqs (ev_var rfl) ev_c (c := false) (by decide +kernel)) (fun h => by cases h) fun _ H6 e6 => ?_
      refine q_when (et_eqs (ev_var rfl) ev_c (c := false) (by decide +kernel)) (fun h => by cases h) fun _ H7 e7 => ?_
      exact fin (((e.trans e4).trans e6).trans e7) (e7 _ _ (e6 _ _ (e4 _ _ hl))) ec
    | drop =>
      rw [hA] at ec fin
      refine q_when (et_eqs (ev_var rfl) ev_c (c := false) (by decide +kernel)) (fun h => by cases h) fun _ H4 e4 => ?_
      refine q_if (et_eqs (ev_var rfl) ev_c (c := true) (by decide +kernel)) (fun _ H6 e6 => ?_) fun h => by cases h
      refine s_setL (l := l) (j := 1) (e6 _ _ (e4 _ _ hl)) ev_c (ev_var rfl) ev_c (by show 1 < 5; decide) fun H5 e5 => ?_
      have eF : ∀ o, Ex H (L2.upd H5 l o) := fun o => Ex.mut (((e.trans e4).trans e6).trans e5) l0
      refine q_when (et_eqs (ev_var rfl) ev_c (c := false) (by decide +kernel)) (fun h => by cases h) fun _ H7 e7 => ?_
      exact fin (own := none) ((eF _).trans e7) (e7 _ _ upd_same) ec
    | claim =>
      rw [hA] at ec fin
      refine q_when (et_eqs (ev_var rfl) ev_c (c := false) (by decide +kernel)) (fun h => by cases h) fun _ H4 e4 => ?_
      refine q_when (et_eqs (ev_var rfl) ev_c (c := false) (by decide +kernel)) (fun h => by cases h) fun _ H6 e6 => ?_
      refine q_if (et_eqs (ev_var rfl) ev_c (c := true) (by decide +kernel)) (fun _ H7 e7 => ?_) fun h => by cases h
      refine s_setL (l := l) (j := 4) (e7 _ _ (e6 _ _ (e4 _ _ hl))) ev_c (ev_var rfl) ev_c (by show 4 < 5; decide) fun H5 e5 => ?_
      have eF : ∀ o, Ex H (L2.upd H5 l o) := fun o => Ex.mut ((((e.trans e4).trans e6).trans e7).trans e5) l0
      exact fin (eF _) upd_same ec
theorem ep_lcar {σ : L2.St} {H : Hp} {ta tb tc : TE} {pq v : V} {n : Nts} {rows : List Row} {s : St} {a : Bool} {E : XK} (hP : Dp K H pq (ptD n rows)) (ok : RwOk rows) (hS : isS s v H) (ha : Ev ta σ H pq) (hb : Ev tb σ H v) (hc : Ev tc σ H (.str (ansS a))) : EvP (tCall (spLCar K) [] E (tCons ta (tCons tb (tCons tc tNil)))) σ H (isS (s.carried rows a)) :=
  ep_call (ea_cons ha (ea_cons hb (ea_cons hc ea_nil))) fun H1 e Q k E => ⟨pq, n, rows, v, s, a, rfl, dpX e _ _ hP, ok, hS.x e, k⟩
def spLDone (K : PySem.W.Frag) : Sp := fun vs H Q _ => ∃ pq n rows v s ev e, vs = [pq, v, ev] ∧ Dp K H pq (ptD n rows) ∧ RwOk rows ∧ isS s v H ∧ Dp K H ev (evD e) ∧ e.ok = true ∧ RetP (isS (happened s rows e)) H Q
theorem cal_law_done (T : Txt K mg) : Cal P w K mg base 5 "_law_done" (spLDone K) [] := by
  obtain ⟨fd, F⟩ := T.f_law_done
  refine calD F T.g_law_done (F.bindsN fun _ _ _ _ _ _ us hl => match us, hl with | [_, _, _], _ => rfl) sc_law_done (fun vs H Q E h => ?_) (fun cdv A outer s H vs Q E hr h => ?_)
  · obtain ⟨pq, n, rows, v, s, ev, e, rfl, _⟩ := h
    rfl
  · obtain ⟨pq, n, rows, v, s, ev, e, rfl, hP, ok, hS, hE, eo, k⟩ := h
    obtain ⟨sa, wv, rfl, hsa0, hw⟩ := id hS
    have hsa : SqL K H sa _ := SqL.of hsa0
    refine ⟨_, (pss_cons (ps_if (ptc op_eq (pix (kIxT K) (pv 2) pe_int) pe_str)
        (pss_one (ps_ret (pe_c (cal_law_carried T) hr (by decide) rfl (pa_cons (pv 0) (pa_cons (pv 1) (pa_cons (pix (kIxT K) (pv 2) pe_int) pa_nil))))))
        pss_nil)
      (pss_cons (ps_if (ptc op_eq (pix (kIxT K) (pv 2) pe_int) pe_str)
        (pss_one (ps_ret (pe_lst (pa_cons (pix (kIxL K) (pv 1) pe_int) (pa_cons (pix (kIxL K) (pv 1) pe_int) (pa_cons (pix (kIxL K) (pv 1) pe_int) (pa_cons pe_non (pa_cons pe_bl pa_nil))))))))
        pss_nil)
      (pss_cons (ps_set (i := 3) sc_law_done.nd rfl (Or.inl rfl) (pe_ifExp (ptc op_gt (pe_callB (kLen K) (by rfl) T.z_len PySem.boot_len (pa_cons (pv 2) pa_nil)) pe_int) (pix (kIxT K) (pv 2) pe_int) pe_non))
      (pss_cons (ps_if (ptc (kIn K) (pix (kIxT K) (pv 2) pe_int) (pe_lst (pa_cons pe_str (pa_cons pe_str pa_nil))))
        (pss_one (ps_ret (pe_op op_cat (pe_lst (pa_cons (pv 3) pa_nil)) (pe_slice (kSlL K) (pv 1) (po_some pe_int) po_none))))
        pss_nil)
      (pss_one (ps_ret (pe_lst (pa_cons (pix (kIxL K) (pv 1) pe_int) (pa_cons (pv 3) (pa_cons (pix (kIxL K) (pv 1) pe_int) (pa_cons (pe_lst (pa_cons (pv 3) pa_nil)) (pa_cons pe_bl pa_nil)))))))))))), ?_⟩
    have chg : ∀ {H' : Hp} {val : Val} {σ : L2.St}, Ex H H' → σ[1]? = some (some (.ref sa)) → σ[3]? = some (some (vo val)) → EvP (tOp rCat (tLst (tCons (tVar 3) tNil)) (tSl (rSlL K) (tVar 1) (tPart (tC (.int 1))) tNoPart)) σ H' (isS (s.changed val)) := fun e' h1 h3 =>
      eS_L (el_cat (xs := [vo _]) (el_lst (ea_cons (ev_var h3) ea_nil) (by show 1 ≤ 100000; decide)) (el_sl (ev_var h1) (eo_some ev_c) eo_none (ex_l e' hsa)) (Nat.le_trans (Nat.add_le_add_left (cutV_length _ _ _) 1) (by show 1 + 5 ≤ 1000; decide))) fun H2 e2 => ⟨wv, rfl, hw.x (e'.trans e2)⟩
    have edt : ∀ {H' : Hp} {val : Val} {σ : L2.St}, Ex H H' → σ[1]? = some (some (.ref sa)) → σ[3]? = some (some (vo val)) → EvP (tLst (tCons (tOp (rIxL K) (tVar 1) (tC (.int 0))) (tCons (tVar 3) (tCons (tOp (rIxL K) (tVar 1) (tC (.int 2))) (tCons (tLst (tCons (tVar 3) tNil)) (tCons (tC (.bl true)) tNil)))))) σ H' (isS (s.edited val)) := fun {H' val σ} e' h1 h3 => by
      refine ep_S (a := s.up) (b := val) (c := s.before) (wi := some val) (m := true) fun H1 e1 Q q => ?_
      refine (eas_v (ev_at (i := 0) (ev_var h1) (ex_l e' hsa) rfl) (eas_v (ev_var h3) (eas_v (ev_at (i := 2) (ev_var h1) (ex_l e' hsa) rfl) (eas_cons (R := fun w H1 => WiP H1 w (some val)) (fun H2 e2 Q2 q2 => (el_lst (ea_cons (ev_var h3) ea_nil) (by show 1 ≤ 100000; decide)) H2 e2 _ fun p H3 hp e3 h => q2 (.ref p) H3 e3 ⟨p, rfl, h⟩) (fun _ _ _ e h => WiP.x e h) (eas_v ev_c eas_nil))))) H1 e1 _ fun vs H2 e2 ⟨r1, h1, r2, h2, r3, h3, v4, r4, h4, h5, r5, h6, h7⟩ => ?_
      subst h1 h2 h3 h4 h6 h7
      exact q _ H2 e2 ⟨v4, rfl, h5⟩
    cases e with
    | carry a =>
      obtain ⟨x, xs, rfl, hx, hd⟩ := dp_tup hE
      cases hd with
      | cons h1 h2 => cases h2 with
        | cons h3 h4 =>
          cases h4
          cases h1
          cases h3
          refine q_when (et_eqs (ev_atT (i := 0) (ev_var rfl) hx rfl) ev_c (c := true) (by decide +kernel)) (fun _ H2 e2 => ?_) fun h => by cases h
          exact sp_ret (ep_lcar (dpX e2 _ _ hP) ok (hS.x e2) (ev_var rfl) (ev_var rfl) (ev_atT (i := 1) (ev_var rfl) (ex_t e2 hx) rfl)) fun v H3 e3 hv => k v H3 (e2.trans e3) hv
    | plain w =>
      obtain ⟨x, hx⟩ := dp_strs (ss := [wordS w]) hE
      obtain ⟨rfl, hx⟩ := hx
      refine q_when (et_eqs (ev_atT (i := 0) (ev_var rfl) hx rfl) ev_c (c := false) (by cases w <;> decide +kernel)) (fun h => by cases h) fun _ H2 e2 => ?_
      cases w with
      | change => cases eo
      | set => cases eo
      | back =>
        refine q_when (et_eqs (ev_atT (i := 0) (ev_var rfl) (ex_t e2 hx) rfl) ev_c (c := true) (by decide +kernel)) (fun _ H3 e3 => ?_) fun h => by cases h
        have e := e2.trans e3
        have up : ∀ {σ : L2.St}, σ[1]? = some (some (.ref sa)) → Ev (tOp (rIxL K) (tVar 1) (tC (.int 0))) σ H3 (vo s.up) := fun h => ev_at (i := 0) (ev_var h) (ex_l e hsa) rfl
        refine sp_ret (ep_S (a := s.up) (b := s.up) (c := s.up) (wi := none) (m := false) fun H1 e1 Q q => ?_) fun v H4 e4 hv => k v H4 (e.trans e4) hv
        exact (ea_cons (up rfl) (ea_cons (up rfl) (ea_cons (up rfl) (ea_cons ev_c (ea_cons ev_c ea_nil))))) H1 e1 _ fun H2 e2 => q _ H2 e2 ⟨.non, rfl, rfl⟩
      | delete =>
        refine q_when (et_eqs (ev_atT (i := 0) (ev_var rfl) (ex_t e2 hx) rfl) ev_c (c := false) (by decide +kernel)) (fun h => by cases h) fun _ H3 e3 => ?_
        have e := e2.trans e3
        refine q_asg (v := vo none) (ev_if (et_gti (i := 1) (j := 1) (ev_lenT (ev_var rfl) (ex_t e hx)) ev_c (c := false) (by rfl)) (fun h => by cases h) fun _ => ev_c) fun H4 e4 => ?_
        refine q_when (ev_inN (ev_atT (i := 0) (ev_var rfl) (ex_t (e.trans e4) hx) rfl) (c := true) (by decide +kernel)) (fun _ H5 e5 => ?_) fun h => by cases h
        exact sp_ret (chg ((e.trans e4).trans e5) rfl rfl) fun v H6 e6 hv => k v H6 (((e.trans e4).trans e5).trans e6) hv
      | remove =>
        refine q_when (et_eqs (ev_atT (i := 0) (ev_var rfl) (ex_t e2 hx) rfl) ev_c (c := false) (by decide +kernel)) (fun h => by cases h) fun _ H3 e3 => ?_
        have e := e2.trans e3
        refine q_asg (v := vo none) (ev_if (et_gti (i := 1) (j := 1) (ev_lenT (ev_var rfl) (ex_t e hx)) ev_c (c := false) (by rfl)) (fun h => by cases h) fun _ => ev_c) fun H4 e4 => ?_
        refine q_when (ev_inN (ev_atT (i := 0) (ev_var rfl) (ex_t (e.trans e4) hx) rfl) (c := false) (by decide +kernel)) (fun h => by cases h) fun _ H5 e5 => ?_
        exact sp_ret (edt ((e.trans e4).trans e5) rfl rfl) fun v H6 e6 hv => k v H6 (((e.trans e4).trans e5).trans e6) hv
    | val w i =>
      obtain ⟨x, xs, rfl, hx, hd⟩ := dp_tup hE
      cases hd with
      | cons h1 h2 => cases h2 with
        | cons h3 h4 =>
          cases h4
          cases h1
          cases h3
          refine q_when (et_eqs (ev_atT (i := 0) (ev_var rfl) hx rfl) ev_c (c := false) (by cases w <;> decide +kernel)) (fun h => by cases h) fun _ H2 e2 => ?_
          refine q_when (et_eqs (ev_atT (i := 0) (ev_var rfl) (ex_t e2 hx) rfl) ev_c (c := false) (by cases w <;> first | decide +kernel | cases eo)) (fun h => by cases h) fun _ H3 e3 => ?_
          have e := e2.trans e3
          refine q_asg (v := vo (some i)) (ev_if (et_gti (i := 2) (j := 1) (ev_lenT (ev_var rfl) (ex_t e hx)) ev_c (c := true) (by rfl)) (fun _ => ev_atT (i := 1) (ev_var rfl) (ex_t e hx) rfl) fun h => by cases h) fun H4 e4 => ?_
          cases w with
          | delete => cases eo
          | remove => cases eo
          | back => cases eo
          | change =>
            refine q_when (ev_inN (ev_atT (i := 0) (ev_var rfl) (ex_t (e.trans e4) hx) rfl) (c := true) (by decide +kernel)) (fun _ H5 e5 => ?_) fun h => by cases h
            exact sp_ret (chg ((e.trans e4).trans e5) rfl rfl) fun v H6 e6 hv => k v H6 (((e.trans e4).trans e5).trans e6) hv
          | set =>
            refine q_when (ev_inN (ev_atT (i := 0) (ev_var rfl) (ex_t (e.trans e4) hx) rfl) (c := false) (by decide +kernel)) (fun h => by cases h) fun _ H5 e5 => ?_
            exact sp_ret (edt ((e.trans e4).trans e5) rfl rfl) fun v H6 e6 hv => k v H6 (((e.trans e4).trans e5).trans e6) hv
end
end Ci

set_option Elab.async false
set_option linter.all false
set_option maxRecDepth 100000
set_option maxHeartbeats 4000000
/-! _law_due, _law_served, _law_sight. -/
namespace Ci
open PySem PySem.Spec PyProof.Rows L2 Evl
open C8 (Cal Met Mak pe_c pe_mk pe_mt pe_mt0 pe_gc)
/-! ### lists of values -/
def isL (xs : List V) : Pr := fun v H => ∃ p, v = .ref p ∧ H p = some (.lst xs)
section
variable {K : PySem.W.Frag} {σ : L2.St} {H : Hp} {ta tb te : TE} {tt : TA} {E : XK} {D : Ends} {tz : TS} {xs ys : List V} {x y v : V} {l : Addr}
theorem ep_Lx (h : EvL te σ H xs) : EvP te σ H (isL xs) := fun H1 e Q q => h H1 e _ fun p H2 _ e2 h2 => q _ H2 e2 ⟨p, rfl, h2⟩
theorem ep_varL {i : Nat} (hσ : σ[i]? = some (some (.ref l))) (h : H l = some (.lst xs)) : EvP (tVar i) σ H (isL xs) := ep_of (ev_var hσ) fun _ e => ⟨l, rfl, e _ _ h⟩
theorem ep_lsV {β : Type} {f : β → V} {bs : List β} (h : EvP te σ H (LsP (fun b => isV (f b)) bs)) : EvP te σ H (isL (bs.map f)) := ep_imp h fun v H1 _ ⟨p, ys, ev, hp, hq⟩ => by
  rw [paired_isV f hq] at hp
  exact ⟨p, ev, hp⟩
theorem el_catM (ha : EvP ta σ H (isL xs)) (hb : EvP tb σ H (isL ys)) (few : xs.length + ys.length ≤ 100000) : EvL (tOp rCat ta tb) σ H (xs ++ ys) := fun H1 e1 Q q =>
  ha H1 e1 _ fun a H2 e2 ⟨p, ea, hp⟩ => hb H2 (e1.trans e2) _ fun b H3 e3 ⟨r, eb, hr⟩ => ⟨p, r, xs, ys, ea, eb, e3 _ _ hp, hr, sz_of few, fun z hz => q z _ (fresh_back (e2.trans e3) hz) ((e2.trans e3).trans (Ex.new hz)) upd_same⟩
theorem ep_is {xs' : List V} (h : EvP te σ H (isL xs)) (e : xs = xs') : EvP te σ H (isL xs') := by
  subst e
  exact h
theorem paired_voX (H : Hp) : ∀ (l : List Val), Paired (fun x (b : Val) => ∀ H1, Ex H H1 → isV (vo b) x H1) (l.map vo) l
  | [] => .nil
  | _ :: l => .cons (fun _ _ => rfl) (paired_voX H l)
end
theorem if_len {α : Type} (b : Bool) (x : α) : (if b = true then [x] else []).length ≤ 1 := by
  cases b
  · exact Nat.zero_le _
  · exact Nat.le_refl _
theorem fm_len {α β : Type} {f : α → List β} {k : Nat} (h : ∀ a, (f a).length = k) : ∀ l : List α, (l.flatMap f).length = l.length * k
  | [] => (Nat.zero_mul k).symm
  | a :: l => by
    rw [List.flatMap_cons, List.length_append, h a, fm_len h l, List.length_cons, Nat.succ_mul]
    omega
theorem take_fm {α β : Type} {f : α → List β} {l : List α} {i : Nat} {a : α} (h : l[i]? = some a) : (l.take (i + 1)).flatMap f = (l.take i).flatMap f ++ f a := by
  rw [List.take_add_one, h, List.flatMap_append]
  show _ ++ [a].flatMap f = _
  rw [List.flatMap_cons, List.flatMap_nil, List.append_nil]
section
variable {P : Program} {w : World} {K : PySem.W.Frag} {mg : Str → Option Value} {base : Heap}
/-- (what is due, a word) -/
def dueP (K : PySem.W.Frag) (x : Val) : Pr := fun v H => ∃ a u, v = .ref a ∧ SqT K H a [vo x, .str u]
def spLDue (K : PySem.W.Frag) : Sp := fun vs H Q _ => ∃ v s y, vs = [v, .str (wayS y)] ∧ Dp K H v (stD s) ∧ RetP (dueP K (s.due y)) H Q
theorem cal_law_due (T : Txt K mg) : Cal P w K mg base 1 "_law_due" (spLDue K) [] := by
  obtain ⟨fd, F⟩ := T.f_law_due
  refine calD F T.g_law_due (F.bindsN fun _ _ _ _ _ _ us hl => match us, hl with | [_, _], _ => rfl) sc_law_due (fun vs H Q E h => ?_) (fun cdv A outer s H vs Q E hr h => ?_)
  · obtain ⟨v, s, y, rfl, _⟩ := h
    rfl
  · obtain ⟨v, s, y, rfl, hS, k⟩ := h
    obtain ⟨a, wv, rfl, ha, hw⟩ := st_in hS
    refine ⟨_, (pss_cons (ps_if (ptc op_eq (pv 1) pe_str)
        (pss_one (ps_ret (pe_ifExp (ptc op_isN (pix (kIxL K) (pv 0) pe_int) pe_non) (pe_tup (pa_cons (pix (kIxL K) (pv 0) pe_int) (pa_cons pe_str pa_nil))) (pe_tup (pa_cons (pix (kIxL K) (pix (kIxL K) (pv 0) pe_int) pe_int) (pa_cons pe_str pa_nil))))))
        pss_nil)
      (pss_one (ps_ret (pe_ifExp (ptc op_eq (pix (kIxL K) (pv 0) pe_int) (pix (kIxL K) (pv 0) pe_int)) (pe_tup (pa_cons (pix (kIxL K) (pv 0) pe_int) (pa_cons pe_str pa_nil))) (pe_tup (pa_cons (pix (kIxL K) (pv 0) pe_int) (pa_cons pe_str pa_nil))))))), ?_⟩
    have pr : ∀ {σ : L2.St} {H1 : Hp} {te : TE} {x : Val} {u : Str}, Ev te σ H1 (vo x) → EvP (tTup (tCons te (tCons (tC (.str u)) tNil))) σ H1 (dueP K x) := fun h =>
      ep_imp (ep_tup (K := K) (ea_cons h (ea_cons ev_c ea_nil)) (by show 2 ≤ 100000; decide)) fun v H2 _ ⟨a, e2, h⟩ => ⟨a, _, e2, h⟩
    cases y with
    | every =>
      refine q_when (et_eqs (ev_var rfl) ev_c (c := true) (by decide +kernel)) (fun _ H1 e1 => ?_) fun h => by cases h
      have ix3 : Ev (tOp (rIxL K) (tVar 0) (tC (.int 3))) [some (.ref a), some (.str (wayS .every))] H1 wv := ev_at (i := 3) (ev_var rfl) (ex_l e1 ha) rfl
      refine sp_ret (R := dueP K (s.due .every)) ?_ fun v H2 e2 hv => k v H2 (e1.trans e2) hv
      cases hs : s.wish with
      | none =>
        rw [hs] at hw
        have ew := wi_none hw
        subst ew
        refine ep_if (b := true) (et_is (et_test (ev_op ix3 ev_c rv_isN)) (by decide +kernel)) (fun _ => ?_) fun h => by cases h
        have ed : s.due .every = s.up := by
          show (match s.wish with | none => s.up | some w => w) = s.up
          rw [hs]
        rw [ed]
        exact pr (ev_at (i := 0) (ev_var rfl) (ex_l e1 ha) rfl)
      | some x =>
        rw [hs] at hw
        obtain ⟨b, rfl, hb⟩ := wi_some hw
        refine ep_if (b := false) (et_is (et_test (ev_op ix3 ev_c rv_isN)) (decide_eq_false fun h => by cases h)) (fun h => by cases h) fun _ => ?_
        have ed : s.due .every = x := by
          show (match s.wish with | none => s.up | some w => w) = x
          rw [hs]
        rw [ed]
        exact pr (ev_at (i := 0) ix3 (ex_l e1 hb) rfl)
    | changed =>
      refine q_when (et_eqs (ev_var rfl) ev_c (c := false) (by decide +kernel)) (fun h => by cases h) fun _ H1 e1 => ?_
      refine sp_ret (R := dueP K (s.due .changed)) ?_ fun v H2 e2 hv => k v H2 (e1.trans e2) hv
      refine ep_if (et_test (ev_eqv (ev_at (i := 1) (ev_var rfl) (ex_l e1 ha) rfl) (ev_at (i := 2) (ev_var rfl) (ex_l e1 ha) rfl))) (fun hn => ?_) fun hn => ?_
      · have ed : s.due .changed = s.up := if_pos (of_decide_eq_true hn)
        rw [ed]
        exact pr (ev_at (i := 0) (ev_var rfl) (ex_l e1 ha) rfl)
      · have ed : s.due .changed = s.here := if_neg (of_decide_eq_false hn)
        rw [ed]
        exact pr (ev_at (i := 1) (ev_var rfl) (ex_l e1 ha) rfl)
theorem ev_ldue {σ : L2.St} {H : Hp} {ta tb : TE} {v : V} {s : St} {y : Way} {E : XK} (hS : Dp K H v (stD s)) (ha : Ev ta σ H v) (hb : Ev tb σ H (.str (wayS y))) : Ev (tOp (rIxT K) (tCall (spLDue K) [] E (tCons ta (tCons tb tNil))) (tC (.int 0))) σ H (vo (s.due y)) := fun H1 e1 Q q =>
  (ep_call (sp := spLDue K) (dvs := []) (E := E) (R := dueP K (s.due y)) (ea_cons ha (ea_cons hb ea_nil)) fun H1 e Q k E => ⟨v, s, y, rfl, dpX e _ _ hS, k⟩) H1 e1 _ fun v H2 e2 ⟨a, u, ev, h⟩ => by
    subst ev
    exact (rv_ixT (i := 0) h rfl) H2 (Ex.refl _) Q fun H3 e3 => q H3 (e2.trans e3)
def spServed (K : PySem.W.Frag) : Sp := fun vs H Q _ => ∃ d v s e u t, vs = [vo d, v, vo e, u] ∧ Dp K H v (stD s) ∧ Dp K H u (stD t) ∧ RetV (.bl (servedL d s e t)) H Q
theorem cal_law_served (T : Txt K mg) : Cal P w K mg base 1 "_law_served" (spServed K) [] := by
  obtain ⟨fd, F⟩ := T.f_law_served
  refine calD F T.g_law_served (F.bindsN fun _ _ _ _ _ _ us hl => match us, hl with | [_, _, _, _], _ => rfl) sc_law_served (fun vs H Q E h => ?_) (fun cdv A outer s H vs Q E hr h => ?_)
  · obtain ⟨d, v, s, e, u, t, rfl, _⟩ := h
    rfl
  · obtain ⟨d, v, s, e, u, t, rfl, hS, hT, k⟩ := h
    obtain ⟨a, wv, rfl, ha, _⟩ := st_in hS
    obtain ⟨b, wu, rfl, hb, _⟩ := st_in hT
    refine ⟨_, (pss_cons (ps_if (PW.pt (pw_or (PW.pt (pw_and (ptc op_eq (pix (kIxL K) (pv 1) pe_int) (pv 0)) (pw_and1 (ptc op_eq (pix (kIxL K) (pv 3) pe_int) (pv 2))))) (pw_or1 (PW.pt (pw_and (ptc op_eq (pix (kIxL K) (pv 1) pe_int) (pv 0)) (pw_and1 (ptc op_eq (pix (kIxL K) (pv 3) pe_int) (pv 2))))))))
        (pss_one (ps_ret pe_bl))
        pss_nil)
      (pss_one (ps_ret (pe_and (pec op_isN (pv 0) pe_non) (pe_one (pec op_isN (pv 2) pe_non)))))), ?_⟩
    refine q_when (b := (decide (s.up = d) && decide (t.up = e)) || (decide (s.here = d) && decide (t.here = e))) (et_or (et_and (et_test (ev_eqv (ev_at (i := 0) (ev_var rfl) ha rfl) (ev_var rfl))) fun _ => et_test (ev_eqv (ev_at (i := 0) (ev_var rfl) hb rfl) (ev_var rfl))) fun _ => et_and (et_test (ev_eqv (ev_at (i := 1) (ev_var rfl) ha rfl) (ev_var rfl))) fun _ => et_test (ev_eqv (ev_at (i := 1) (ev_var rfl) hb rfl) (ev_var rfl))) (fun h1 H1 e1 => ?_) fun h1 H1 e1 => ?_
    · refine s_ret ev_c fun H2 e2 => ?_
      have es : servedL d s e t = true := by
        unfold servedL
        rw [h1]
        rfl
      rw [es] at k
      exact k H2 (e1.trans e2)
    · refine s_ret (ev_andV (ev_isN (ev_var rfl)) fun _ => ev_isN (ev_var rfl)) fun H2 e2 => ?_
      have es : servedL d s e t = (d.isNone && e.isNone) := by
        unfold servedL
        rw [h1]
        rfl
      rw [es] at k
      exact k H2 (e1.trans e2)
def spSight (K : PySem.W.Frag) : Sp := fun vs H Q _ => ∃ nv n v s, vs = [nv, v] ∧ Dp K H nv (strsD (ntsS n)) ∧ Dp K H v (stD s) ∧ RetP (isL ((sightL n s).map V.bl)) H Q
theorem sp_len (n : Nts) (s : St) : (spotsV n s).length ≤ 3 := by
  unfold spotsV
  rw [List.length_append]
  have := if_len n.base s.before
  show 2 + _ ≤ 3
  omega
theorem cal_law_sight (T : Txt K mg) : Cal P w K mg base 1 "_law_sight" (spSight K) [] := by
  obtain ⟨fd, F⟩ := T.f_law_sight
  refine calD F T.g_law_sight (F.bindsN fun _ _ _ _ _ _ us hl => match us, hl with | [_, _], _ => rfl) sc_law_sight (fun vs H Q E h => ?_) (fun cdv A outer s H vs Q E hr h => ?_)
  · obtain ⟨nv, n, v, s, rfl, _⟩ := h
    rfl
  · obtain ⟨nv, n, v, s, rfl, hN, hS, k⟩ := h
    obtain ⟨a, wv, rfl, ha, _⟩ := st_in hS
    obtain ⟨b, rfl, hb⟩ := dp_strs hN
    refine ⟨_, (pss_cons (ps_set (i := 2) sc_law_sight.nd rfl (Or.inl rfl) (pe_op op_cat (pe_slice (kSlL K) (pv 1) po_none (po_some pe_int)) (pe_ifExp (ptc (kIn K) pe_str (pv 0)) (pe_lst (pa_cons (pix (kIxL K) (pv 1) pe_int) pa_nil)) (pe_lst pa_nil))))
      (pss_cons (ps_setLc (i := 3) (own := [("_law_spot_here", 5)]) (by rfl) sc_law_sight.nd rfl rfl (sw_true rfl rfl rfl (by decide +kernel)) (pi_list (pv 2)) (blkOk_by (own := [("_law_spot_here", 5)]) (N := n_law_sight) (sc := defScope s_law_sight) (by decide +kernel)) (fun _ _ _ _ _ => (pg_name (i := 5) sc_law_sight.nd rfl (Or.inl rfl))) (fun _ _ _ _ _ => pts_nil) (fun _ _ _ _ _ => (pec op_isN (pv 5) pe_non)))
      (pss_cons (ps_for PassesOwn.never rfl (pi_list (pv 2)) (pg_name (i := 4) sc_law_sight.nd rfl (Or.inr rfl))
        (pss_one (ps_set (i := 3) sc_law_sight.nd rfl (Or.inl rfl) (pe_op op_cat (pv 3) (pe_lc (own := [("_law_other", 6)]) (by rfl) sc_law_sight.nd (pi_list (pv 2)) (blkOk_by (own := [("_law_other", 6)]) (N := n_law_sight) (sc := defScope s_law_sight) (by decide +kernel)) (fun _ _ _ _ _ => (pg_name (i := 6) sc_law_sight.nd rfl (Or.inl rfl))) (fun _ _ _ _ _ => pts_nil) (fun _ _ _ _ _ => (pec op_eq (pv 4) (pv 6))))))))
      (pss_one (ps_ret (pe_op op_cat (pv 3) (pe_ifExp (ptc (kIn K) pe_str (pv 0)) (pe_lst (pa_cons (pix (kIxL K) (pv 1) pe_int) pa_nil)) (pe_lst pa_nil)))))))), ?_⟩
    have few := sp_len n s
    refine q_asgL (xs := (spotsV n s).map vo) ?_ fun p H1 hp e1 h1 => ?_
    · have c1 : EvL (tOp rCat (tSl (rSlL K) (tVar 1) tNoPart (tPart (tC (.int 2)))) (tIf (tTest (tOp (rIn K false) (tC (.str "base")) (tVar 0))) (tLst (tCons (tOp (rIxL K) (tVar 1) (tC (.int 2))) tNil)) (tLst tNil))) [some (.ref b), some (.ref a), none, none, none, none, none] H (([s.up, s.here].map vo) ++ ((if n.base then [s.before] else []).map vo)) := by
        refine el_cat (el_sl (ev_var rfl) eo_none (eo_some ev_c) ha) (el_if (b := n.base) (et_is (et_test (ev_op ev_c (ev_var rfl) (rv_isT hb rfl (by cases n with | mk b m => cases b <;> cases m <;> decide +kernel)))) (by cases n with | mk b m => cases b <;> cases m <;> decide +kernel)) (fun h => ?_) fun h => ?_) ?_
        · rw [if_pos h]
          exact el_lst (ea_cons (ev_at (i := 2) (ev_var rfl) ha rfl) ea_nil) (by show 1 ≤ 100000; decide)
        · rw [if_neg (by rw [h]; decide)]
          exact el_lst ea_nil (by show 0 ≤ 100000; decide)
        · have := if_len n.base s.before
          show 2 + _ ≤ 1000
          rw [List.length_map]
          omega
      rw [← List.map_append] at c1
      exact c1
    refine qp_asg (ep_lsV (f := V.bl) (ep_comp (R := fun b => isV (.bl b)) (spotsV n s) (fun _ => true) (fun v => v.isNone) (fun x v _ => v = vo x) (fun x σ2 _ => σ2[5]? = some (some (vo x))) (it_list (K := K) (ev_var rfl) (SqL.of h1) (paired_voX H1 _)) (fun x v H' _ _ hx Kt kt => by
      subst hx
      exact kt _ rfl rfl) (fun _ _ _ _ _ _ => ev_tYes) (fun x σ2 H' _ _ h _ => ep_v (ev_isN (ev_var h))) (fun _ _ _ _ _ h => h) (Nat.le_trans few (by decide)))) fun fv H2 e2 ⟨f, ef, hf⟩ => ?_
    subst ef
    have e12 := e1.trans e2
    rw [show (fun _ : Val => true) = fun _ => true from rfl, List.filter_eq_self.mpr (fun _ _ => rfl)] at hf
    let row : Val → List Bool := fun a => (spotsV n s).map fun b => decide (a = b)
    have rl : ∀ a, (row a).length = (spotsV n s).length := fun a => List.length_map _
    refine q_forLn (j := 4) (ev_var rfl) (SqL.of (e2 _ _ h1)) (fun i σ' H' => Ex H2 H' ∧ ∃ g u4 u5 u6, σ' = [some (.ref b), some (.ref a), some (.ref p), some (.ref g), u4, u5, u6] ∧ H' g = some (.lst (((spotsV n s).map (fun v => v.isNone) ++ ((spotsV n s).take i).flatMap row).map V.bl))) (fun H3 e3 => ⟨e3, f, none, none, none, rfl, by
      rw [List.take_zero, List.flatMap_nil, List.append_nil]
      exact e3 _ _ hf⟩) (fun i σ' H' _ h => SqL.of (h.1 _ _ (e2 _ _ h1))) ?_ ?_
    · rintro i x σ' H3 hx ⟨e3, g, u4, u5, u6, rfl, hg⟩
      rw [List.getElem?_map] at hx
      obtain ⟨o, ho, rfl⟩ := Option.map_eq_some_iff.mp hx
      have hi := (List.getElem?_eq_some_iff.mp ho).1
      refine s_asgL (xs := (((spotsV n s).map (fun v => v.isNone) ++ ((spotsV n s).take i).flatMap row).map V.bl) ++ (row o).map V.bl) (el_catM (ep_varL rfl hg) (ep_is (ep_lsV (f := V.bl) (ep_comp (R := fun b => isV (.bl b)) (spotsV n s) (fun _ => true) (fun b => decide (o = b)) (fun x v _ => v = vo x) (fun x σ2 _ => σ2[6]? = some (some (vo x)) ∧ σ2[4]? = some (some (vo o))) (it_list (K := K) (ev_var rfl) (SqL.of (e3 _ _ (e2 _ _ h1))) (paired_voX H3 _)) (fun x v H' _ _ hx Kt kt => by
        subst hx
        exact kt _ rfl ⟨rfl, rfl⟩) (fun _ _ _ _ _ _ => ev_tYes) (fun x σ2 H' _ _ h _ => ep_v (ev_eqv (ev_var h.2) (ev_var h.1))) (fun _ _ _ _ _ h => h) (Nat.le_trans few (by decide)))) (by rw [List.filter_eq_self.mpr (fun _ _ => rfl)])) ?_) fun q H4 _ e4 h4 => ?_
      · rw [List.length_map, List.length_append, List.length_map, fm_len rl, List.length_map, rl]
        have := List.length_take_le i (spotsV n s)
        have : ((spotsV n s).take i).length * (spotsV n s).length ≤ 3 * 3 := Nat.mul_le_mul (by omega) few
        omega
      · refine ⟨e3.trans e4, q, _, _, _, rfl, ?_⟩
        rw [h4, take_fm ho, ← List.map_append, List.append_assoc]
    · rintro σ' H3 ⟨e3, g, u4, u5, u6, rfl, hg⟩
      rw [List.length_map, List.take_of_length_le (Nat.le_refl _)] at hg
      refine sp_ret (ep_Lx (el_catM (ep_varL rfl hg) (ys := (if n.mine then [s.mine] else []).map V.bl) (ep_if (b := n.mine) (et_is (et_test (ev_op ev_c (ev_var rfl) (rv_isT (ex_t (e12.trans e3) hb) rfl (by cases n with | mk b m => cases b <;> cases m <;> decide +kernel)))) (by cases n with | mk b m => cases b <;> cases m <;> decide +kernel)) (fun h => ?_) fun h => ?_) ?_)) fun v H4 e4 ⟨q, ev, h4⟩ => k v H4 ((e12.trans e3).trans e4) ⟨q, ev, ?_⟩
      · rw [if_pos h]
        exact ep_Lx (el_lst (ea_cons (ev_at (i := 4) (ev_var rfl) (ex_l (e12.trans e3) ha) rfl) ea_nil) (by show 1 ≤ 100000; decide))
      · rw [if_neg (by rw [h]; decide)]
        exact ep_Lx (el_lst ea_nil (by show 0 ≤ 100000; decide))
      · rw [List.length_map, List.length_append, List.length_map, fm_len rl, List.length_map]
        have : (spotsV n s).length * (spotsV n s).length ≤ 3 * 3 := Nat.mul_le_mul few few
        have : (if n.mine then [s.mine] else []).length ≤ 1 := if_len _ _
        omega
      · rw [h4, ← List.map_append]
        rfl
end
end Ci

set_option Elab.async false
set_option linter.all false
set_option maxRecDepth 100000
set_option maxHeartbeats 4000000
/-! _law_key, of one state. -/
namespace Ci
open PySem PySem.Spec PyProof.Rows L2 Evl
open C8 (Cal Met Mak pe_c pe_mk pe_mt pe_mt0 pe_gc)
/-- the law's key of one state -/
def lkey (s : St) : List Int := (nums [] s.parts).map (fun i => i - 1) ++ [if s.wish.isNone then 1 else 0, if s.mine then 1 else 0]
theorem key_lkey {s t : St} (h : keyOf [s] = keyOf [t]) : lkey s = lkey t := by
  have h : nums [] s.parts ++ tail2 s = nums [] t.parts ++ tail2 t := by
    have h0 : nums [] s.parts ++ (tail2 s ++ []) = nums [] t.parts ++ (tail2 t ++ []) := h
    rwa [List.append_nil, List.append_nil] at h0
  obtain ⟨h1, h2⟩ := List.append_inj' h rfl
  have w : s.wish.isNone = t.wish.isNone := by
    have := (List.cons.inj h2).1
    cases hs : s.wish <;> cases ht : t.wish <;> rw [hs, ht] at this <;> first | rfl | (simp at this)
  have m : s.mine = t.mine := by
    have := (List.cons.inj (List.cons.inj h2).2).1
    cases hs : s.mine <;> cases ht : t.mine <;> rw [hs, ht] at this <;> first | rfl | (revert this; decide)
  unfold lkey
  rw [h1, w, m]
theorem in_ints (i : Int) : ∀ l : List Int, inV (.int i) (l.map V.int) = decide (i ∈ l)
  | [] => rfl
  | a :: l => by
    have ih := in_ints i l
    unfold inV at ih ⊢
    rw [List.map_cons, List.any_cons, ih]
    show ((a == i) || decide (i ∈ l)) = _
    by_cases h : a = i
    · subst h
      rw [beq_self_eq_true, decide_eq_true List.mem_cons_self]
      rfl
    · rw [beq_eq_false_iff_ne.mpr h, Bool.false_or]
      by_cases m : i ∈ l
      · rw [decide_eq_true m, decide_eq_true (List.mem_cons_of_mem _ m)]
      · rw [decide_eq_false m, decide_eq_false fun z => (List.mem_cons.mp z).elim (fun q => h q.symm) m]
theorem flat_ints : ∀ l : List Int, (l.map V.int).all flatV = true
  | [] => rfl
  | a :: l => by
    rw [List.map_cons, List.all_cons, flat_ints l]
    rfl
theorem flat_vo (l : List Val) : (l.map vo).all flatV = true := by
  rw [List.all_map, List.all_eq_true]
  exact fun v _ => vo_flat v
section
variable {K : PySem.W.Frag} {σ : L2.St} {H : Hp} {ta tb te : TE} {tt : TA} {E : XK} {D : Ends} {tz : TS} {xs ys : List V} {x y v : V} {l : Addr}
theorem q_par2 {i j : Nat} (k : ∀ p q H1, H p = none → H q = none → p ≠ q → Ex H H1 → H1 p = some (.lst []) → H1 q = some (.lst []) → tz D ((σ.set i (some (.ref p))).set j (some (.ref q))) H1) : tSeq (tPar i j (tCons (tLst tNil) (tCons (tLst tNil) tNil))) tz D σ H :=
  ⟨sz_of (by show 0 ≤ 100000; decide), fun p hp => ⟨sz_of (by show 0 ≤ 100000; decide), fun q hq => ⟨.ref p, .ref q, rfl, k p q _ hp (fresh_back (Ex.new hp) hq) (ne_of_none upd_same hq) ((Ex.new hp).trans (Ex.new hq)) (Ex.new hq _ _ upd_same) upd_same⟩⟩⟩
theorem ev_indexL {z : V} {j : Nat} (ho : Ev ta σ H (.ref l)) (hl : SqL K H l ys) (hy : Ev tb σ H y) (hx : flatV y = true) (hf : ys.all flatV = true) (hz : ys[j]? = some z) (he : eqV z y = true) (hno : ∀ (m : Nat) (z' : V), m < j → ys[m]? = some z' → eqV z' y = false) : Ev (tBM K "list" (rIndex K) ta (tCons tb tNil)) σ H (.int (j : Nat)) := fun H1 e1 Q q =>
  ho H1 e1 _ fun H2 e2 => ⟨Or.inl ⟨rfl, ys, ex_l (e1.trans e2) hl⟩, hy H2 (e1.trans e2) _ fun H3 e3 => ⟨l, ys, y, j, z, rfl, rfl, ex_l ((e1.trans e2).trans e3) hl, hx, hf, hz, he, hno, q H3 (e2.trans e3)⟩⟩
theorem ev_idxInt {i : Int} {ks : List Int} (ho : Ev ta σ H (.ref l)) (hl : SqL K H l (ks.map V.int)) (hy : Ev tb σ H (.int i)) (hi : i ∈ ks) : Ev (tBM K "list" (rIndex K) ta (tCons tb tNil)) σ H (.int (ks.idxOf i : Nat)) := by
  have lt := List.idxOf_lt_length_of_mem hi
  refine ev_indexL (z := .int i) ho hl hy rfl (flat_ints ks) ?_ (beq_self_eq_true i) fun m z' hm hz => ?_
  · rw [List.getElem?_map, List.getElem?_eq_getElem lt, List.getElem_idxOf lt]
    rfl
  · rw [List.getElem?_map] at hz
    obtain ⟨a, ha, rfl⟩ := Option.map_eq_some_iff.mp hz
    have h := List.not_of_lt_findIdx (p := (· == i)) (xs := ks) hm
    obtain ⟨hl, e⟩ := List.getElem?_eq_some_iff.mp ha
    rw [e] at h
    exact beq_eq_false_iff_ne.mpr (by simpa using h)
theorem ev_intB {b : Bool} (h : Ev te σ H (.bl b)) : Ev (tCB (fun xs H Q => (∃ i, xs = [.int i] ∧ Q (.int i) H) ∨ ∃ k, xs = [.bl k] ∧ Q (.int (if k then 1 else 0)) H) (tCons te tNil)) σ H (.int (if b then 1 else 0)) := fun H1 e1 Q q =>
  h H1 e1 _ fun H2 e2 => .inr ⟨b, rfl, q H2 e2⟩
end
section
variable {P : Program} {w : World} {K : PySem.W.Frag} {mg : Str → Option Value} {base : Heap}
def lkP (s : St) : Pr := fun v H => ∃ b, v = .ref b ∧ H b = some (.tup ((lkey s).map V.int))
def spKey (K : PySem.W.Frag) : Sp := fun vs H Q _ => ∃ a v s, vs = [.ref a] ∧ SqL K H a [v] ∧ isS s v H ∧ RetP (lkP s) H Q
theorem parts_eqL (s : St) : s.parts.map vo = [vo s.up, vo s.here, vo s.before] ++ s.wish.toList.map vo := by
  unfold St.parts
  rw [List.map_append]
  rfl
/-- the values of a state, as a new list -/
theorem el_parts {σ : L2.St} {H : Hp} {i : Nat} {a : Addr} {s : St} {wv : V} (hσ : σ[i]? = some (some (.ref a))) (ha : H a = some (.lst [vo s.up, vo s.here, vo s.before, wv, .bl s.mine])) (hw : WiP H wv s.wish) :
    EvP (tIf (tTest (tOp (fun x y H Q => y = .non ∧ Q (.bl (!decide (x = .non))) H) (tOp (rIxL K) (tVar i) (tC (.int 3))) (tC .non))) (tOp (rIxL K) (tVar i) (tC (.int 3))) (tLst tNil)) σ H (isL (s.wish.toList.map vo)) := by
  have ix3 : Ev (tOp (rIxL K) (tVar i) (tC (.int 3))) σ H wv := ev_at (i := 3) (ev_var hσ) (SqL.of ha) rfl
  cases hs : s.wish with
  | none =>
    rw [hs] at hw
    have ew : wv = .non := hw
    subst ew
    exact ep_if (b := false) (et_is (et_test (ev_op ix3 ev_c rv_notN)) (by decide +kernel)) (fun h => by cases h) fun _ => ep_Lx (el_lst ea_nil (by show 0 ≤ 100000; decide))
  | some x =>
    rw [hs] at hw
    obtain ⟨b, rfl, hb⟩ := hw
    exact ep_if (b := true) (et_is (et_test (ev_op ix3 ev_c rv_notN)) (by
      rw [decide_eq_false fun h => by cases h]
      rfl)) (fun _ => ep_of ix3 fun H1 e => ⟨b, rfl, e _ _ hb⟩) fun h => by cases h
theorem wl_len (o : Option Val) : (o.toList.map vo).length ≤ 1 := by cases o <;> simp
theorem cal_law_key (T : Txt K mg) : Cal P w K mg base 1 "_law_key" (spKey K) [] := by
  obtain ⟨fd, F⟩ := T.f_law_key
  refine calD F T.g_law_key (F.bindsN fun _ _ _ _ _ _ us hl => match us, hl with | [_], _ => rfl) sc_law_key (fun vs H Q E h => ?_) (fun cdv A outer s H vs Q E hr h => ?_)
  · obtain ⟨a, v, s, rfl, _⟩ := h
    rfl
  · obtain ⟨a, v, s, rfl, hA, hS, k⟩ := h
    obtain ⟨sa, wv, rfl, hsa, hw⟩ := id hS
    refine ⟨_, (pss_cons (ps_par (i := 1) (j := 2) (by rfl) sc_law_key.nd rfl rfl (by decide) rfl rfl (pa_cons (pe_lst pa_nil) (pa_cons (pe_lst pa_nil) pa_nil)) (by rfl))
      (pss_cons (ps_for PassesOwn.never rfl (pi_list (pv 0)) (pg_name (i := 3) sc_law_key.nd rfl (Or.inl rfl))
        (pss_cons (ps_for PassesOwn.never rfl (pi_list (pe_op op_cat (pe_slice (kSlL K) (pv 3) po_none (po_some pe_int)) (pe_ifExp (ptc op_notN (pix (kIxL K) (pv 3) pe_int) pe_non) (pix (kIxL K) (pv 3) pe_int) (pe_lst pa_nil)))) (pg_name (i := 4) sc_law_key.nd rfl (Or.inl rfl))
          (pss_cons (ps_if (PW.pt (pw_and (ptc op_notN (pv 4) pe_non) (pw_and1 (ptc (kNotIn K) (pv 4) (pv 1)))))
            (pss_one (ps_expr (pe_bm PySem.F.plainAttrs_list PySem.F.slot_list_append PySem.F.type_list_append mt_append (pv 1) (pa_cons (pv 4) pa_nil))))
            pss_nil)
          (pss_one (ps_expr (pe_bm PySem.F.plainAttrs_list PySem.F.slot_list_append PySem.F.type_list_append mt_append (pv 2) (pa_cons (pe_ifExp (ptc op_isN (pv 4) pe_non) (pe_un un_neg pe_int) (pe_bm PySem.F.plainAttrs_list PySem.F.slot_list_index PySem.F.type_list_index mt_index (pv 1) (pa_cons (pv 4) pa_nil))) pa_nil))))))
        (pss_one (ps_set (i := 2) sc_law_key.nd rfl (Or.inl rfl) (pe_op op_cat (pv 2) (pe_lst (pa_cons (pe_callTy call_int1 (by rfl) T.z_int (by decide +kernel) (pa_cons (pec op_isN (pix (kIxL K) (pv 3) pe_int) pe_non) pa_nil)) (pa_cons (pe_callTy call_int1 (by rfl) T.z_int (by decide +kernel) (pa_cons (pix (kIxL K) (pv 3) pe_int) pa_nil)) pa_nil))))))))
      (pss_one (ps_ret (pe_callTy (kTupOf K) (by rfl) T.z_tuple (by decide +kernel) (pa_cons (pv 2) pa_nil)))))), ?_⟩
    refine q_par2 fun kn fo H1 hk0 hf0 hkf e1 hk hf => ?_
    have pl := parts_len s
    let PvD : Hp → L2.St → Prop := fun H' σ' => Ex H H' ∧ (∃ u3 u4, σ' = [some (.ref a), some (.ref kn), some (.ref fo), u3, u4])
    refine q_forLn (j := 3) (ev_var rfl) (ex_l e1 hA) (fun i σ' H' => Ex H H' ∧ (i = 0 → H' kn = some (.lst []) ∧ H' fo = some (.lst []) ∧ ∃ u3 u4, σ' = [some (.ref a), some (.ref kn), some (.ref fo), u3, u4]) ∧ (i = 1 → ∃ f u3 u4, σ' = [some (.ref a), some (.ref kn), some (.ref f), u3, u4] ∧ H' f = some (.lst ((lkey s).map V.int)))) (fun H2 e2 => ⟨e1.trans e2, fun _ => ⟨e2 _ _ hk, e2 _ _ hf, none, none, rfl⟩, fun h => (by cases h)⟩) (fun i σ' H' _ h => ex_l h.1 hA) ?_ ?_
    · rintro i x σ' H2 hx ⟨e2, h0, _⟩
      have hi : i = 0 := by
        have := (List.getElem?_eq_some_iff.mp hx).1
        simp only [List.length_cons, List.length_nil] at this
        omega
      subst hi
      cases hx
      obtain ⟨hk2, hf2, u3, u4, rfl⟩ := h0 rfl
      refine q_forNL (xs := s.parts.map vo) ?_ (fun p j σ' H' => Ex H H' ∧ p ≠ kn ∧ p ≠ fo ∧ H' p = some (.lst (s.parts.map vo)) ∧ H' kn = some (.lst ((learnAll [] (s.parts.take j)).map V.int)) ∧ H' fo = some (.lst (((nums [] (s.parts.take j)).map fun i => i - 1).map V.int)) ∧ ∃ u4, σ' = [some (.ref a), some (.ref kn), some (.ref fo), some (.ref sa), u4]) (fun p H3 hp e3 h3 => ⟨e2.trans e3, Ne.symm (ne_of_none hk2 hp), Ne.symm (ne_of_none hf2 hp), h3, e3 _ _ hk2, e3 _ _ hf2, u4, rfl⟩) (fun p j σ' H' _ h => SqL.of h.2.2.2.1) ?_ ?_
      · rw [parts_eqL]
        exact el_catM (ep_Lx (el_sl (ev_var rfl) eo_none (eo_some ev_c) (SqL.of (e2 _ _ hsa)))) (el_parts rfl (e2 _ _ hsa) (hw.x e2)) (by
          have := wl_len s.wish
          show 3 + _ ≤ 100000
          omega)
      · rintro p j x σ' H3 hx ⟨e3, n1, n2, hp3, hk3, hf3, u4', rfl⟩
        rw [List.getElem?_map] at hx
        obtain ⟨o, ho, rfl⟩ := Option.map_eq_some_iff.mp hx
        have lt := (List.getElem?_eq_some_iff.mp ho).1
        have nxt : learnAll [] (s.parts.take (j + 1)) = learn (learnAll [] (s.parts.take j)) o := by rw [take_next ho, learnAll_append]; rfl
        have nxn : nums [] (s.parts.take (j + 1)) = nums [] (s.parts.take j) ++ [numV (learn (learnAll [] (s.parts.take j)) o) o] := by rw [take_next ho, nums_snoc]
        have ll := learnAll_len (s.parts.take j) []
        have tl := List.length_take_le j s.parts
        simp only [List.length_nil] at ll
        have rest : ∀ H4, Ex H H4 → H4 p = some (.lst (s.parts.map vo)) → H4 kn = some (.lst ((learnAll [] (s.parts.take (j + 1))).map V.int)) → H4 fo = some (.lst (((nums [] (s.parts.take j)).map fun i => i - 1).map V.int)) → Ev (tIf (tTest (tOp (fun x y H Q => y = .non ∧ Q (.bl (decide (x = .non))) H) (tVar 4) (tC .non))) (tUn (fun x H Q => ∃ i, x = .int i ∧ Q (.int (-i)) H) (tC (.int 1))) (tBM K "list" (rIndex K) (tVar 1) (tCons (tVar 4) tNil))) [some (.ref a), some (.ref kn), some (.ref fo), some (.ref sa), some (vo o)] H4 (.int (numV (learn (learnAll [] (s.parts.take j)) o) o - 1)) := fun H4 e4 p4 k4 f4 => by
          cases o with
          | none => exact ev_if (b := true) (et_is (et_test (ev_op (ev_var rfl) ev_c rv_isN)) (by decide +kernel)) (fun _ => ev_is (ev_un ev_c ru_neg) rfl) fun h => by cases h
          | some n =>
            refine ev_if (b := false) (et_is (et_test (ev_op (ev_var rfl) ev_c rv_isN)) (decide_eq_false fun h => by cases h)) (fun h => by cases h) fun _ => ?_
            rw [nxt] at k4
            refine ev_is (ev_idxInt (ev_var rfl) (SqL.of k4) (ev_var rfl) (mem_learn.mpr (.inr rfl))) (congrArg V.int ?_)
            show _ = ((_ : Int) + 1) - 1
            omega
        have fin : ∀ H4, Ex H H4 → H4 p = some (.lst (s.parts.map vo)) → H4 kn = some (.lst ((learnAll [] (s.parts.take (j + 1))).map V.int)) → H4 fo = some (.lst (((nums [] (s.parts.take j)).map fun i => i - 1).map V.int)) → Ex H (L2.upd H4 fo (.lst ((((nums [] (s.parts.take j)).map fun i => i - 1).map V.int) ++ [.int (numV (learn (learnAll [] (s.parts.take j)) o) o - 1)]))) ∧ p ≠ kn ∧ p ≠ fo ∧ (L2.upd H4 fo (.lst ((((nums [] (s.parts.take j)).map fun i => i - 1).map V.int) ++ [.int (numV (learn (learnAll [] (s.parts.take j)) o) o - 1)]))) p = some (.lst (s.parts.map vo)) ∧ (L2.upd H4 fo (.lst ((((nums [] (s.parts.take j)).map fun i => i - 1).map V.int) ++ [.int (numV (learn (learnAll [] (s.parts.take j)) o) o - 1)]))) kn = some (.lst ((learnAll [] (s.parts.take (j + 1))).map V.int)) ∧ (L2.upd H4 fo (.lst ((((nums [] (s.parts.take j)).map fun i => i - 1).map V.int) ++ [.int (numV (learn (learnAll [] (s.parts.take j)) o) o - 1)]))) fo = some (.lst (((nums [] (s.parts.take (j + 1))).map fun i => i - 1).map V.int)) := fun H4 e4 p4 k4 f4 => by
          refine ⟨Ex.mut e4 hf0, n1, n2, by rw [upd_ne n2]; exact p4, by rw [upd_ne hkf]; exact k4, ?_⟩
          rw [upd_same, nxn, List.map_append, List.map_append]
          rfl
        have few : ((((nums [] (s.parts.take j)).map fun i => i - 1).map V.int)).length < 100000 := by
          rw [List.length_map, List.length_map, nums_length]
          omega
        refine q_when (b := match o with | none => false | some n => !decide (n ∈ learnAll [] (s.parts.take j))) ?_ (fun hb H4 e4 => ?_) fun hb H4 e4 => ?_
        · cases o with
          | none => exact et_and (a := false) (b := true) (et_is (et_test (ev_op (ev_var rfl) ev_c rv_notN)) (by decide +kernel)) fun h => by cases h
          | some n =>
            refine et_and (a := true) (et_is (et_test (ev_op (ev_var rfl) ev_c rv_notN)) ?_) fun _ => ?_
            · rw [decide_eq_false fun h => by cases h]
              rfl
            exact et_is (et_test (ev_op (ev_var rfl) (ev_var rfl) (rv_niL (SqL.of hk3) rfl (flat_ints _)))) (congrArg Bool.not (in_ints n _))
        · cases o with
          | none => cases hb
          | some n =>
            have hn : n ∉ learnAll [] (s.parts.take j) := by simpa using hb
            have el : (learnAll [] (s.parts.take (j + 1))) = learnAll [] (s.parts.take j) ++ [n] := by
              rw [nxt]
              exact if_neg hn
            refine s_app (l := kn) (e4 _ _ hk3) (ev_var rfl) (ev_var rfl) (by rw [List.length_map]; omega) fun H5 e5 => ?_
            have a1 : Ex H (L2.upd H5 kn (.lst ((learnAll [] (s.parts.take j)).map V.int ++ [vo (some n)]))) := Ex.mut ((e3.trans e4).trans e5) hk0
            have a2 : (L2.upd H5 kn (.lst ((learnAll [] (s.parts.take j)).map V.int ++ [vo (some n)]))) p = some (.lst (s.parts.map vo)) := by
              rw [upd_ne n1]
              exact e5 _ _ (e4 _ _ hp3)
            have a3 : (L2.upd H5 kn (.lst ((learnAll [] (s.parts.take j)).map V.int ++ [vo (some n)]))) kn = some (.lst ((learnAll [] (s.parts.take (j + 1))).map V.int)) := by
              rw [upd_same, el, List.map_append]
              rfl
            have a4 : (L2.upd H5 kn (.lst ((learnAll [] (s.parts.take j)).map V.int ++ [vo (some n)]))) fo = some (.lst (((nums [] (s.parts.take j)).map fun i => i - 1).map V.int)) := by
              rw [upd_ne (Ne.symm hkf)]
              exact e5 _ _ (e4 _ _ hf3)
            refine s_app (l := fo) a4 (ev_var rfl) (rest _ a1 a2 a3 a4) few fun H6 e6 => ?_
            obtain ⟨b1, b2, b3, b4, b5, b6⟩ := fin H6 (a1.trans e6) (e6 _ _ a2) (e6 _ _ a3) (e6 _ _ a4)
            exact ⟨b1, b2, b3, b4, b5, b6, _, rfl⟩
        · have el : (learnAll [] (s.parts.take (j + 1))) = learnAll [] (s.parts.take j) := by
            rw [nxt]
            cases o with
            | none => rfl
            | some n => exact if_pos (by simpa using hb)
          have a1 := e3.trans e4
          have a3 : H4 kn = some (.lst ((learnAll [] (s.parts.take (j + 1))).map V.int)) := by rw [el]; exact e4 _ _ hk3
          have a4 := e4 _ _ hf3
          refine s_app (l := fo) a4 (ev_var rfl) (rest _ a1 (e4 _ _ hp3) a3 a4) few fun H6 e6 => ?_
          obtain ⟨b1, b2, b3, b4, b5, b6⟩ := fin H6 (a1.trans e6) (e6 _ _ (e4 _ _ hp3)) (e6 _ _ a3) (e6 _ _ a4)
          exact ⟨b1, b2, b3, b4, b5, b6, _, rfl⟩
      · rintro p σ' H3 ⟨e3, n1, n2, hp3, hk3, hf3, u4', rfl⟩
        rw [List.length_map, List.take_of_length_le (Nat.le_refl _)] at hf3
        have ix3 : ∀ {σ : L2.St}, σ[3]? = some (some (.ref sa)) → Ev (tOp (rIxL K) (tVar 3) (tC (.int 3))) σ H3 wv := fun h => ev_at (i := 3) (ev_var h) (SqL.of (e3 _ _ hsa)) rfl
        have wn : decide (wv = .non) = s.wish.isNone := by
          cases hs : s.wish with
          | none =>
            rw [hs] at hw
            exact decide_eq_true hw
          | some x =>
            rw [hs] at hw
            obtain ⟨b, rfl, _⟩ := hw
            exact decide_eq_false fun h => by cases h
        refine s_asgL (el_catM (ep_varL rfl hf3) (ep_Lx (el_lst (vs := [.int (if s.wish.isNone then 1 else 0), .int (if s.mine then 1 else 0)]) (ea_cons (ev_intB (ev_is (ev_op (ix3 rfl) ev_c rv_isN) (congrArg V.bl wn))) (ea_cons (ev_intB (ev_at (i := 4) (ev_var rfl) (SqL.of (e3 _ _ hsa)) rfl)) ea_nil)) (by show 2 ≤ 100000; decide))) (by
          rw [List.length_map, List.length_map, nums_length]
          show _ + 2 ≤ 100000
          omega)) fun f H4 _ e4 h4 => ⟨e3.trans e4, fun h => (by cases h), fun _ => ⟨f, _, _, rfl, ?_⟩⟩
        rw [h4]
        unfold lkey
        rw [List.map_append]
        rfl
    · rintro σ' H2 ⟨e2, _, h1⟩
      obtain ⟨f, u3, u4, rfl, hf⟩ := h1 rfl
      refine sp_ret (R := lkP s) (fun H3 e3 Q q => ?_) fun v H3 e3 hv => k v H3 (e2.trans e3) hv
      exact ⟨.ref f, rfl, f, _, rfl, .inl ⟨SqL.of (e3 _ _ hf), fun l hl => q (.ref l) _ (Ex.new hl) ⟨l, rfl, upd_same⟩⟩⟩
end
end Ci

set_option Elab.async false
set_option linter.all false
set_option maxRecDepth 100000
set_option maxHeartbeats 4000000
/-! _law_choices, of one state. -/
namespace Ci
open PySem PySem.Spec PyProof.Rows L2 Evl
open C8 (Cal Met Mak pe_c pe_mk pe_mt pe_mt0 pe_gc)
theorem in_vos (i : Int) : ∀ l : List Val, inV (.int i) (l.map vo) = decide (some i ∈ l)
  | [] => rfl
  | a :: l => by
    have ih := in_vos i l
    unfold inV at ih ⊢
    rw [List.map_cons, List.any_cons, ih]
    have e : eqV (vo a) (.int i) = decide (a = some i) := by
      cases a with
      | none => rfl
      | some j =>
        show (j == i) = _
        rw [Bool.beq_eq_decide_eq]
        exact decide_eq_decide.mpr ⟨fun h => by rw [h], fun h => Option.some.inj h⟩
    rw [e]
    by_cases h : a = some i
    · subst h
      rw [decide_eq_true rfl, decide_eq_true List.mem_cons_self]
      rfl
    · rw [decide_eq_false h, Bool.false_or]
      by_cases m : some i ∈ l
      · rw [decide_eq_true m, decide_eq_true (List.mem_cons_of_mem _ m)]
      · rw [decide_eq_false m, decide_eq_false fun z => (List.mem_cons.mp z).elim (fun q => h q.symm) m]
theorem cut_one (xs : List V) : cutV xs none (some 1) = xs.take 1 := by
  unfold cutV
  cases xs with
  | nil => rfl
  | cons a l =>
    have e1 : HT.sIx (a :: l).length 0 none = 0 := rfl
    have e2 : HT.sIx (a :: l).length (a :: l).length (some 1) = 1 := by
      unfold HT.sIx
      simp only [List.length_cons]
      first | omega | (split <;> omega) | (simp; omega)
    rw [e1, e2]
    rfl
theorem valsL_len (s : St) : (valsL s).length ≤ 7 := by
  unfold valsL
  rw [List.length_append]
  have h1 : (knownL s).length ≤ 6 := List.length_filter_le _ _
  have h2 := List.length_take_le 1 (freshL s)
  omega
theorem evsW_len (s : St) (w : Word) : (evsW s w).length ≤ 7 := by
  unfold evsW
  split
  · rw [List.length_map]
    exact valsL_len s
  · show 1 ≤ 7
    decide
theorem evsL_len (s : St) : ∀ ws : List Word, (evsL s ws).length ≤ 7 * ws.length
  | [] => Nat.zero_le _
  | w :: ws => by
    have h1 := evsW_len s w
    have h2 := evsL_len s ws
    unfold evsL at h2 ⊢
    rw [List.flatMap_cons, List.length_append, List.length_cons]
    omega
def carsL : List Evt := [.carry true, .carry false]
section
variable {K : PySem.W.Frag} {σ : L2.St} {H : Hp} {ta tb te : TE} {tt : TA} {E : XK} {D : Ends} {tz : TS} {xs ys : List V} {x y v : V} {l : Addr}
theorem q_asgF {i : Nat} {Rs : List V → Hp → Prop} (h : EvAs tt σ H Rs) (few : ∀ vs H1, Rs vs H1 → vs.length ≤ 1000) (k : ∀ vs p H1, Ex H H1 → Rs vs H1 → H1 p = none → tz D (σ.set i (some (.ref p))) (L2.upd H1 p (.lst vs))) : tSeq (tAsg (tLst tt) (gName i)) tz D σ H :=
  h H (Ex.refl _) _ fun vs H1 e1 r => ⟨sz_of (by have := few vs H1 r; omega), fun p hp => k vs p H1 e1 r hp⟩
theorem s_catP {i j : Nat} {β : Type} {R : β → Pr} {bs : List β} (hσ : σ[i]? = some (some (.ref l))) (hl : H l = some (.lst xs)) (h : EvP tb σ H (LsP R bs)) (few : xs.length + bs.length ≤ 100000) (st : ∀ b, Stb (R b))
    (k : ∀ p ys H1, H p = none → Ex H H1 → H1 p = some (.lst (xs ++ ys)) → Paired (fun y b => R b y H1) ys bs → D.nx (σ.set j (some (.ref p))) H1) : tAsg (tOp rCat (tVar i) tb) (gName j) D σ H :=
  ⟨.ref l, hσ, h H (Ex.refl _) _ fun v H1 e1 ⟨q, ys, ev, hq, hp⟩ => ⟨l, q, xs, ys, rfl, ev, e1 _ _ hl, hq, sz_of (by rw [Paired.length hp]; exact few), fun p hp0 => k p ys _ (fresh_back e1 hp0) (e1.trans (Ex.new hp0)) upd_same (Paired.mapP hp fun y b z => st b y _ _ (Ex.new hp0) z)⟩⟩
end
section
variable {P : Program} {w : World} {K : PySem.W.Frag} {mg : Str → Option Value} {base : Heap}
def wsV (ws : List Word) : List V := (ws.map wordS).map V.str
theorem pair_evs {H H' : Hp} (e : ExT H H') {ys : List V} {es : List Evt} (h : Paired (fun y e => isD K (evD e) y H) ys es) : Paired (fun y e => isD K (evD e) y H') ys es := Paired.mapP h fun y b z => stb_isD K (noL_ev b) _ _ _ e z
/-- a new list -/
def RetN (R : List V → Hp → Prop) (H : Hp) (Q : VK) : Prop := ∀ p ys H2, H p = none → Ex H H2 → H2 p = some (.lst ys) → R ys H2 → Q (.ref p) H2
def evsR (K : PySem.W.Frag) (es : List Evt) : List V → Hp → Prop := fun ys H => Paired (fun y e => isD K (evD e) y H) ys es
def spChoices (K : PySem.W.Frag) : Sp := fun vs H Q _ => ∃ a b v s ws, vs = [.ref a, .ref b] ∧ SqL K H a [v] ∧ isS s v H ∧ SqL K H b (wsV ws) ∧ ws.length ≤ 5 ∧ RetN (evsR K (carsL ++ evsL s ws)) H Q
theorem cal_law_choices (T : Txt K mg) : Cal P w K mg base 1 "_law_choices" (spChoices K) [] := by
  obtain ⟨fd, F⟩ := T.f_law_choices
  refine calD F T.g_law_choices (F.bindsN fun _ _ _ _ _ _ us hl => match us, hl with | [_, _], _ => rfl) sc_law_choices (fun vs H Q E h => ?_) (fun cdv A outer s H vs Q E hr h => ?_)
  · obtain ⟨a, b, v, s, ws, rfl, _⟩ := h
    rfl
  · obtain ⟨a, b, v, s, ws, rfl, hA, hS, hB, hw5, k⟩ := h
    obtain ⟨sa, wv, rfl, hsa, hw⟩ := id hS
    refine ⟨_, (pss_cons (ps_set (i := 2) sc_law_choices.nd rfl (Or.inl rfl) (pe_lst (pa_cons pe_int (pa_cons pe_int (pa_cons pe_int (pa_cons pe_int (pa_cons pe_int (pa_cons pe_int pa_nil))))))))
      (pss_cons (ps_set (i := 3) sc_law_choices.nd rfl (Or.inr rfl) (pe_lst pa_nil))
      (pss_cons (ps_for PassesOwn.never rfl (pi_list (pv 0)) (pg_name (i := 4) sc_law_choices.nd rfl (Or.inl rfl))
        (pss_one (ps_set (i := 3) sc_law_choices.nd rfl (Or.inr rfl) (pe_op op_cat (pe_op op_cat (pv 3) (pe_slice (kSlL K) (pv 4) po_none (po_some pe_int))) (pe_ifExp (ptc op_notN (pix (kIxL K) (pv 4) pe_int) pe_non) (pix (kIxL K) (pv 4) pe_int) (pe_lst pa_nil))))))
      (pss_cons (ps_setLcT (i := 5) (own := [("_law_value", 8)]) (by rfl) sc_law_choices.nd rfl rfl (sw_true rfl rfl rfl (by decide +kernel)) (pi_list (pv 2)) (blkOk_by (own := [("_law_value", 8)]) (N := n_law_choices) (sc := defScope s_law_choices) (by decide +kernel)) (fun _ _ _ _ _ => (pg_name (i := 8) sc_law_choices.nd rfl (Or.inl rfl))) (fun _ _ _ _ _ => (ptc (kNotIn K) (pv 8) (pv 3))) (fun _ _ _ _ _ => (pv 8)))
      (pss_cons (ps_set (i := 2) sc_law_choices.nd rfl (Or.inl rfl) (pe_op op_cat (pe_lcT (own := [("_law_value", 8)]) (by rfl) sc_law_choices.nd (pi_list (pv 2)) (blkOk_by (own := [("_law_value", 8)]) (N := n_law_choices) (sc := defScope s_law_choices) (by decide +kernel)) (fun _ _ _ _ _ => (pg_name (i := 8) sc_law_choices.nd rfl (Or.inl rfl))) (fun _ _ _ _ _ => (ptc (kIn K) (pv 8) (pv 3))) (fun _ _ _ _ _ => (pv 8))) (pe_slice (kSlL K) (pv 5) po_none (po_some pe_int))))
      (pss_cons (ps_set (i := 6) sc_law_choices.nd rfl (Or.inl rfl) (pe_lst (pa_cons (pe_tup (pa_cons pe_str (pa_cons pe_str pa_nil))) (pa_cons (pe_tup (pa_cons pe_str (pa_cons pe_str pa_nil))) pa_nil))))
      (pss_cons (ps_for PassesOwn.never rfl (pi_list (pv 1)) (pg_name (i := 7) sc_law_choices.nd rfl (Or.inr rfl))
        (pss_one (ps_if (ptc (kIn K) (pv 7) (pe_lst (pa_cons pe_str (pa_cons pe_str pa_nil))))
          (pss_one (ps_set (i := 6) sc_law_choices.nd rfl (Or.inl rfl) (pe_op op_cat (pv 6) (pe_lc (own := [("_law_value", 8)]) (by rfl) sc_law_choices.nd (pi_list (pv 2)) (blkOk_by (own := [("_law_value", 8)]) (N := n_law_choices) (sc := defScope s_law_choices) (by decide +kernel)) (fun _ _ _ _ _ => (pg_name (i := 8) sc_law_choices.nd rfl (Or.inl rfl))) (fun _ _ _ _ _ => pts_nil) (fun _ _ _ _ _ => (pe_tup (pa_cons (pv 7) (pa_cons (pv 8) pa_nil))))))))
          (pss_one (ps_expr (pe_bm PySem.F.plainAttrs_list PySem.F.slot_list_append PySem.F.type_list_append mt_append (pv 6) (pa_cons (pe_tup (pa_cons (pv 7) pa_nil)) pa_nil)))))))
      (pss_one (ps_ret (pv 6)))))))))), ?_⟩
    refine q_asgL (xs := numL.map V.int) (el_lst (ea_cons ev_c (ea_cons ev_c (ea_cons ev_c (ea_cons ev_c (ea_cons ev_c (ea_cons ev_c ea_nil)))))) (by show 6 ≤ 100000; decide)) fun vl H1 _ e1 hvl => ?_
    refine q_asgL (xs := []) (el_lst ea_nil (by show 0 ≤ 100000; decide)) fun u0 H2 _ e2 hu0 => ?_
    have e12 := e1.trans e2
    have hvl2 := e2 _ _ hvl
    refine q_forLn (j := 4) (ev_var rfl) (ex_l e12 hA) (fun i σ' H' => Ex H2 H' ∧ (i = 0 → ∃ u4, σ' = [some (.ref a), some (.ref b), some (.ref vl), some (.ref u0), u4, none, none, none, none]) ∧ (i = 1 → ∃ f u4, σ' = [some (.ref a), some (.ref b), some (.ref vl), some (.ref f), u4, none, none, none, none] ∧ H' f = some (.lst ((usedL s).map vo)))) (fun H3 e3 => ⟨e3, fun _ => ⟨none, rfl⟩, fun h => (by cases h)⟩) (fun i σ' H' _ h => ex_l (e12.trans h.1) hA) ?_ ?_
    · rintro i x σ' H3 hx ⟨e3, h0, _⟩
      have hi : i = 0 := by
        have := (List.getElem?_eq_some_iff.mp hx).1
        simp only [List.length_cons, List.length_nil] at this
        omega
      subst hi
      cases hx
      obtain ⟨u4, rfl⟩ := h0 rfl
      have e03 := e12.trans e3
      refine s_asgL (xs := (usedL s).map vo) ?_ fun f H4 _ e4 h4 => ⟨e3.trans e4, fun h => (by cases h), fun _ => ⟨f, _, rfl, h4⟩⟩
      have pe : (usedL s).map vo = ([] ++ [vo s.up, vo s.here, vo s.before]) ++ s.wish.toList.map vo := parts_eqL s
      rw [pe]
      refine el_catM (ep_Lx (el_catM (ep_varL rfl (e3 _ _ hu0)) (ep_Lx (el_sl (ev_var rfl) eo_none (eo_some ev_c) (SqL.of (e03 _ _ hsa)))) (by show 0 + 3 ≤ 100000; decide))) (el_parts rfl (e03 _ _ hsa) (hw.x e03)) ?_
      have := wl_len s.wish
      show 3 + _ ≤ 100000
      omega
    · rintro σ' H3 ⟨e3, _, h1⟩
      obtain ⟨f, u4, rfl, hf⟩ := h1 rfl
      have hvl3 := e3 _ _ hvl2
      have e03 := e12.trans e3
      have n6 : numL.length ≤ 100000 := by decide
      refine qp_asg (ep_lsV (f := V.int) (ep_comp (R := fun i => isV (.int i)) numL (fun i => !decide (some i ∈ usedL s)) (fun i => i) (fun i v _ => v = .int i) (fun i σ2 _ => σ2[8]? = some (some (.int i)) ∧ σ2[3]? = some (some (.ref f))) (it_list (K := K) (ev_var rfl) (SqL.of hvl3) (paired_ints2 H3 numL)) (fun x v H' _ _ hx Kt kt => by
        subst hx
        exact kt _ rfl ⟨rfl, rfl⟩) (fun i σ2 H' _ e' h => et_is (et_test (ev_op (ev_var h.1) (ev_var h.2) (rv_niL (SqL.of (e' _ _ hf)) rfl (flat_vo _)))) (congrArg Bool.not (in_vos i _))) (fun x σ2 H' _ _ h _ => ep_v (ev_var h.1)) (fun _ _ _ _ _ h => h) n6)) fun fv H4 e4 ⟨fr, efr, hfr⟩ => ?_
      subst efr
      rw [List.map_id'] at hfr
      have hvl4 := e4 _ _ hvl3
      have hf4 := e4 _ _ hf
      refine q_asgL (xs := (valsL s).map V.int) ?_ fun nv H5 _ e5 hnv => ?_
      · have pe : (valsL s).map V.int = ((numL.filter fun i => decide (some i ∈ usedL s)).map fun i => i).map V.int ++ cutV ((freshL s).map V.int) none (some 1) := by
          rw [cut_one, ← List.map_take, List.map_id', ← List.map_append]
          rfl
        rw [pe]
        refine el_catM (ep_lsV (f := V.int) (ep_comp (R := fun i => isV (.int i)) numL (fun i => decide (some i ∈ usedL s)) (fun i => i) (fun i v _ => v = .int i) (fun i σ2 _ => σ2[8]? = some (some (.int i)) ∧ σ2[3]? = some (some (.ref f))) (it_list (K := K) (ev_var rfl) (SqL.of hvl4) (paired_ints2 H4 numL)) (fun x v H' _ _ hx Kt kt => by
          subst hx
          exact kt _ rfl ⟨rfl, rfl⟩) (fun i σ2 H' _ e' h => et_is (et_test (ev_op (ev_var h.1) (ev_var h.2) (rv_isL (SqL.of (e' _ _ hf4)) rfl (flat_vo _)))) (in_vos i _)) (fun x σ2 H' _ _ h _ => ep_v (ev_var h.1)) (fun _ _ _ _ _ h => h) n6)) (ep_Lx (el_sl (ev_var rfl) eo_none (eo_some ev_c) (SqL.of hfr))) ?_
        have h1 := cutV_length ((freshL s).map V.int) none (some 1)
        have h2 : (freshL s).length ≤ 6 := List.length_filter_le _ _
        have h3 : (numL.filter fun i => decide (some i ∈ usedL s)).length ≤ 6 := List.length_filter_le _ _
        rw [List.length_map] at h1
        rw [List.length_map, List.length_map]
        omega
      · have e05 := (e03.trans e4).trans e5
        refine q_asgF (Rs := fun vs H' => Paired (fun y e => isD K (evD e) y H') vs carsL) (fun H6 e6 Q q => ?_) (fun vs H6 h => by rw [Paired.length h]; decide) fun vs g H6 e6 r hg => ?_
        · refine (eas_cons (R := isD K (evD (.carry true))) (ep_imp (ep_tup (K := K) (ea_cons ev_c (ea_cons ev_c ea_nil)) (by show 2 ≤ 100000; decide)) fun v H2 _ ⟨a, e2, h⟩ => by
            subst e2
            exact .tup h (.cons (.str _) (.cons (.str _) .nil))) (stb_isD K (noL_ev _)).s (eas_cons (R := isD K (evD (.carry false))) (ep_imp (ep_tup (K := K) (ea_cons ev_c (ea_cons ev_c ea_nil)) (by show 2 ≤ 100000; decide)) fun v H2 _ ⟨a, e2, h⟩ => by
            subst e2
            exact .tup h (.cons (.str _) (.cons (.str _) .nil))) (stb_isD K (noL_ev _)).s eas_nil)) H6 e6 _ fun vs H7 e7 ⟨v1, r1, h1, q1, v2, r2, h2, q2, h3⟩ => ?_
          subst h1 h2 h3
          exact q _ H7 e7 (.cons q1 (.cons q2 .nil))
        · have hg5 := fresh_back e6 hg
          refine q_forLn (j := 7) (xs := wsV ws) (ev_var rfl) (ex_l (e05.trans (e6.trans (Ex.new hg))) hB) (fun i σ' H' => Ex H5 H' ∧ ∃ g ys u7 u8, σ' = [some (.ref a), some (.ref b), some (.ref nv), some (.ref f), u4, some (.ref fr), some (.ref g), u7, u8] ∧ H5 g = none ∧ H' g = some (.lst ys) ∧ Paired (fun y e => isD K (evD e) y H') ys (carsL ++ evsL s (ws.take i))) (fun H7 e7 => ⟨(e6.trans (Ex.new hg)).trans e7, g, vs, none, none, rfl, hg5, e7 _ _ upd_same, by
            rw [List.take_zero]
            exact pair_evs (tOf ((Ex.new hg).trans e7)) r⟩) (fun i σ' H' _ h => ex_l (e05.trans h.1) hB) ?_ ?_
          · rintro i x σ' H7 hx ⟨e7, g, ys, u7, u8, rfl, hg0, hgy, hp⟩
            unfold wsV at hx
            rw [List.getElem?_map, List.getElem?_map] at hx
            obtain ⟨z, hz, rfl⟩ := Option.map_eq_some_iff.mp hx
            obtain ⟨wd, hwd, rfl⟩ := Option.map_eq_some_iff.mp hz
            have hev : evsL s (ws.take (i + 1)) = evsL s (ws.take i) ++ evsW s wd := take_fm hwd
            have ly : ys.length ≤ 37 := by
              rw [Paired.length hp, List.length_append]
              have h1 := evsL_len s (ws.take i)
              have h2 := List.length_take_le' i ws
              show 2 + _ ≤ 37
              omega
            have hnv7 := e7 _ _ hnv
            refine s_if (b := wd.valued) (ev_inN (ev_var rfl) (by cases wd <;> decide +kernel)) (fun hv H8 e8 => ?_) fun hv H8 e8 => ?_
            · refine s_catP (l := g) (R := fun i => isD K (evD (.val wd i))) rfl (e8 _ _ hgy) (ep_comp (R := fun i => isD K (evD (.val wd i))) (valsL s) (fun _ => true) (fun i => i) (fun i v _ => v = .int i) (fun i σ2 _ => σ2[8]? = some (some (.int i)) ∧ σ2[7]? = some (some (.str (wordS wd)))) (it_list (K := K) (ev_var rfl) (SqL.of (e8 _ _ hnv7)) (paired_ints2 H8 _)) (fun x v H' _ _ hx Kt kt => by
                subst hx
                exact kt _ rfl ⟨rfl, rfl⟩) (fun _ _ _ _ _ _ => ev_tYes) (fun x σ2 H' _ _ h _ => ep_imp (ep_tup (K := K) (ea_cons (ev_var h.2) (ea_cons (ev_var h.1) ea_nil)) (by show 2 ≤ 100000; decide)) fun v H2 _ ⟨a, e2, h⟩ => by
                subst e2
                exact .tup h (.cons (.str _) (.cons (.int _) .nil))) (fun i => stb_isD K (noL_ev _)) (Nat.le_trans (valsL_len s) (by decide))) ?_ (fun i => (stb_isD K (noL_ev _)).s) fun p zs H9 hp0 e9 h9 hq => ?_
              · have h1 := valsL_len s
                have h2 := List.length_filter_le (fun _ : Int => true) (valsL s)
                rw [List.length_map]
                omega
              · refine ⟨(e7.trans e8).trans e9, p, _, _, _, rfl, fresh_back (e7.trans e8) hp0, h9, ?_⟩
                rw [List.map_id', List.filter_eq_self.mpr (fun _ _ => rfl)] at hq
                rw [hev, ← List.append_assoc]
                refine paired_app (pair_evs (tOf (e8.trans e9)) hp) ?_
                unfold evsW
                rw [if_pos hv]
                exact paired_map hq
            · refine s_appU (l := g) (e8 _ _ hgy) (ev_var rfl) (eu_tup (vs := [.str (wordS wd)]) (ea_cons (ev_var rfl) ea_nil) (by show 1 ≤ 100000; decide)) (by omega) fun q H9 _ e9 hq => ?_
              have eU : ExT H9 (L2.upd H9 g (.lst (ys ++ [.ref q]))) := ExT.upd (ExT.refl _) (e9 _ _ (e8 _ _ hgy)) (fun z => z)
              refine ⟨Ex.mut ((e7.trans e8).trans e9) hg0, g, _, _, _, rfl, hg0, upd_same, ?_⟩
              rw [hev, ← List.append_assoc]
              refine paired_app (pair_evs ((tOf (e8.trans e9)).trans eU) hp) ?_
              unfold evsW
              rw [if_neg (by rw [hv]; decide)]
              exact .cons (.tup (sqT eU (SqT.of hq)) (.cons (.str _) .nil)) .nil
          · rintro σ' H7 ⟨e7, g, ys, u7, u8, rfl, hg0, hgy, hp⟩
            have hl : (wsV ws).length = ws.length := by
              unfold wsV
              rw [List.length_map, List.length_map]
            rw [hl, List.take_of_length_le (Nat.le_refl _)] at hp
            exact s_ret (ev_var rfl) fun H8 e8 => k g ys H8 (fresh_back e05 hg0) ((e05.trans e7).trans e8) (e8 _ _ hgy) (pair_evs (tOf e8) hp)
end
end Ci

set_option Elab.async false
set_option linter.all false
set_option maxRecDepth 100000
set_option maxHeartbeats 4000000
/-! _law_conflict. -/
namespace Ci
open PySem PySem.Spec PyProof.Rows L2 Evl
open C8 (Cal Met Mak pe_c pe_mk pe_mt pe_mt0 pe_gc)
/-! ### lists of states, filled -/
theorem refs_of {H : Hp} : ∀ {ys : List V} {bs : List St}, Paired (fun y s => isS s y H) ys bs → ∀ y ∈ ys, isRefV y = true
  | _, _, .nil, y, h => by cases h
  | _, _, .cons r t, y, h => by
    rcases List.mem_cons.mp h with rfl | h
    · obtain ⟨a, w, e, _⟩ := r
      subst e
      rfl
    · exact refs_of t y h
theorem pair_S {H H' : Hp} (e : ExL H H') {ys : List V} {bs : List St} (h : Paired (fun y s => isS s y H) ys bs) : Paired (fun y s => isS s y H') ys bs := Paired.mapP h fun _ _ z => z.l e
theorem grow_exL {H : Hp} {g : Addr} {ys : List V} {bs : List St} {o : HO} (hg : H g = some (.lst ys)) (hp : Paired (fun y s => isS s y H) ys bs) : ExL H (L2.upd H g o) := ExL.upd (ExL.refl _) hg (refs_imm (refs_of hp))
theorem lst_exT {H : Hp} {g : Addr} {ys : List V} {o : HO} (hg : H g = some (.lst ys)) : ExT H (L2.upd H g o) := ExT.upd (ExT.refl _) hg fun z => z
theorem cut_drop2 (xs : List V) : cutV xs (some 2) none = xs.drop 2 := by
  unfold cutV
  have e1 : HT.sIx xs.length 0 (some 2) = min 2 xs.length := HT.sIx_nat _ _ 2
  rw [e1, HT.sIx_none]
  rcases Nat.le_total 2 xs.length with h | h
  · rw [Nat.min_eq_left h, List.take_of_length_le (by rw [List.length_drop]; exact Nat.le_refl _)]
  · rw [Nat.min_eq_right h, List.drop_of_length_le (Nat.le_refl _), List.drop_of_length_le h, List.take_nil]
theorem paired_drop {α β : Type} {F : α → β → Prop} : ∀ (n : Nat) {l : List α} {m : List β}, Paired F l m → Paired F (l.drop n) (m.drop n)
  | 0, _, _, h => h
  | _ + 1, _, _, .nil => .nil
  | n + 1, _, _, .cons _ t => paired_drop n t
theorem fm_le {α β : Type} {f : α → List β} {k : Nat} (h : ∀ a, (f a).length ≤ k) : ∀ l : List α, (l.flatMap f).length ≤ l.length * k
  | [] => Nat.zero_le _
  | a :: l => by
    have h1 := h a
    have h2 := fm_le h l
    rw [List.flatMap_cons, List.length_append, List.length_cons, Nat.succ_mul]
    omega
section
variable {K : PySem.W.Frag} {σ : L2.St} {H : Hp} {ta tb te tl : TE} {tt : TA} {E : XK} {D : Ends} {tz : TS} {tu : TS} {g : TG} {xs ys : List V} {x y v : V} {l : Addr} {R : Pr} {α : Type} {Rb : α → Pr} {as : List α}
theorem s_appQ (hl : H l = some (.lst xs)) (ha : Ev ta σ H (.ref l)) (h : EvP te σ H R) (hz : xs.length < 100000) (k : ∀ v H1, Ex H H1 → R v H1 → D.nx σ (L2.upd H1 l (.lst (xs ++ [v])))) :
    tDrop (tBM K "list" rAppend ta (tCons te tNil)) D σ H := ha H (Ex.refl H) _ fun H1 e1 =>
  ⟨Or.inl ⟨rfl, xs, sq_of (e1 l _ hl)⟩, h H1 e1 _ fun v H2 e2 r => ⟨l, xs, v, rfl, rfl, e2 l _ (e1 l _ hl), sz_lt (by omega), k v H2 (e1.trans e2) r⟩⟩
theorem s_forSl (h : EvP te σ H (LsP Rb as)) (st : ∀ a, Stb (Rb a)) (hk : ∀ p ys H1, H p = none → Ex H H1 → H1 p = some (.lst ys) → Paired (fun y a => Rb a y H1) ys (as.drop 2) → tFor (iList K (tC (.ref p))) g tu D σ H1) : tFor (iList K (tSl (rSlL K) te (tPart (tC (.int 2))) tNoPart)) g tu D σ H :=
  h H (Ex.refl _) _ fun v H1 e1 ⟨q, ys, ev, hq, hp⟩ => by
    refine ⟨2, rfl, ?_⟩
    refine ⟨q, ys, ev, SqL.of hq, fun p hp0 => ?_⟩
    exact hk p _ _ (fresh_back e1 hp0) (e1.trans (Ex.new hp0)) upd_same (by
      rw [cut_drop2]
      exact Paired.mapP (paired_drop 2 hp) fun y b z => st b y _ _ (Ex.new hp0) z)
theorem stb_isL (xs : List V) : Stb (isL xs) := fun _ _ _ e ⟨p, h1, h2⟩ => ⟨p, h1, e _ _ h2⟩
theorem lay_bool (b : Bool) : PyData.canLay0 (.bool b) = true ∧ PyData.depth (.bool b) ≤ 8 := by cases b <;> decide +kernel
theorem dps_bools : ∀ bs : List Bool, DpAll K H (bs.map V.bl) (bs.map PyData.bool)
  | [] => .nil
  | b :: bs => .cons (.bl b) (dps_bools bs)
theorem eqv_bools : ∀ l m : List Bool, PyData.eqvAll (l.map PyData.bool) (m.map PyData.bool) = decide (l = m)
  | [], [] => by simp [PyData.eqvAll]
  | [], _ :: _ => by simp [PyData.eqvAll]
  | _ :: _, [] => by simp [PyData.eqvAll]
  | a :: l, b :: m => by
    rw [List.map_cons, List.map_cons]
    show (PyData.eqv (.bool a) (.bool b) && PyData.eqvAll _ _) = _
    rw [eqv_bools l m]
    have e : PyData.eqv (.bool a) (.bool b) = decide (a = b) := by
      show (a == b) = _
      rw [Bool.beq_eq_decide_eq]
    rw [e]
    by_cases h : a = b
    · subst h
      by_cases k : l = m
      · subst k
        simp
      · simp [k]
    · simp [h]
theorem et_eqBs {bs cs : List Bool} (ha : EvP ta σ H (isL (bs.map V.bl))) (hb : EvP tb σ H (isL (cs.map V.bl))) : EvT (tTest (tOp (rEqD K) ta tb)) σ H (decide (bs = cs)) := fun H1 e1 Q q =>
  ha H1 e1 _ fun v H2 e2 ⟨p, ep, hp⟩ => hb H2 (e1.trans e2) _ fun u H3 e3 ⟨r, er, hr⟩ => by
    subst ep er
    refine ⟨_, _, .lst (SqL.of (e3 _ _ hp)) (dps_bools bs), .lst (SqL.of hr) (dps_bools cs), sh_list lay_bool bs, sh_list lay_bool cs, _, rfl, ?_⟩
    have e : PyData.eqv (.list (bs.map PyData.bool)) (.list (cs.map PyData.bool)) = decide (bs = cs) := by
      rw [← eqv_bools]
      simp only [PyData.eqv]
    rw [e]
    exact q H3 (e2.trans e3)
end
def shortN (ws : List Word) : Nat → List St
  | 0 => short0
  | n + 1 => roundL ws (shortN ws n)
theorem nexts_len (ws : List Word) (s : St) (h : ws.length ≤ 5) : (nextsL ws s).length ≤ 35 := by
  unfold nextsL
  rw [List.length_map]
  have := evsL_len s ws
  omega
theorem short_len (ws : List Word) (h : ws.length ≤ 5) : (shortN ws 0).length ≤ 2 ∧ (shortN ws 1).length ≤ 72 := by
  constructor
  · exact Nat.le_refl 2
  · show (roundL ws short0).length ≤ 72
    unfold roundL
    rw [List.length_append]
    have := fm_le (f := nextsL ws) (fun s => nexts_len ws s h) short0
    have : short0.length = 2 := rfl
    omega
theorem evs_ok {s : St} {ws : List Word} {e : Evt} (h : e ∈ evsL s ws) : e.ok = true := by
  obtain ⟨w, hw, he⟩ := List.mem_flatMap.mp h
  unfold evsW at he
  split at he
  · rename_i hv
    obtain ⟨i, _, rfl⟩ := List.mem_map.mp he
    exact hv
  · rename_i hv
    obtain rfl := List.mem_singleton.mp he
    show (!w.valued) = true
    cases hq : w.valued with
    | true => exact absurd hq hv
    | false => rfl
section
variable {P : Program} {w : World} {K : PySem.W.Frag} {mg : Str → Option Value} {base : Heap}
section
variable {σ : L2.St} {H : Hp} {ta tb tc : TE} {E : XK} {v u : V} {s t : St} {b : Addr} {ws : List Word} {n : Nts}
theorem rw_nil : RwOk [] := ⟨by decide, by intro r h; cases h⟩
theorem ep_sight (hN : Dp K H v (strsD (ntsS n))) (hS : isS s u H) (ha : Ev ta σ H v) (hb : Ev tb σ H u) : EvP (tCall (spSight K) [] E (tCons ta (tCons tb tNil))) σ H (isL ((sightL n s).map V.bl)) :=
  ep_call (ea_cons ha (ea_cons hb ea_nil)) fun H1 e Q k E => ⟨v, n, u, s, rfl, dpX e _ _ hN, (hS.x e).dp, k⟩
theorem ev_served {d e : Val} {td te : TE} (hS : isS s v H) (hT : isS t u H) (hd : Ev td σ H (vo d)) (ha : Ev ta σ H v) (he : Ev te σ H (vo e)) (hb : Ev tb σ H u) : Ev (tCall (spServed K) [] E (tCons td (tCons ta (tCons te (tCons tb tNil))))) σ H (.bl (servedL d s e t)) :=
  ev_call (ea_cons hd (ea_cons ha (ea_cons he (ea_cons hb ea_nil)))) fun H1 x Q k E => ⟨d, v, s, e, u, t, rfl, (hS.x x).dp, (hT.x x).dp, fun H2 e2 => k H2 e2⟩
theorem ep_choices (hS : isS s v H) (hB : SqL K H b (wsV ws)) (h5 : ws.length ≤ 5) (ha : Ev ta σ H v) (hb : Ev tb σ H (.ref b)) : EvP (tCall (spChoices K) [] E (tCons (tLst (tCons ta tNil)) (tCons tb tNil))) σ H (LsP (fun e => isD K (evD e)) (carsL ++ evsL s ws)) :=
  ep_callA (eas_cons (ep_Lx (el_lst (vs := [v]) (ea_cons ha ea_nil) (by show 1 ≤ 100000; decide))) (stb_isL _) (eas_v hb eas_nil)) fun vs H1 e ⟨u, r, h1, ⟨p, h2, h3⟩, r2, h4, h5'⟩ => by
    subst h1 h2 h4 h5'
    exact fun H2 e2 Q k E => ⟨p, b, v, s, ws, rfl, SqL.of (e2 _ _ h3), hS.x (e.trans e2), ex_l (e.trans e2) hB, h5, fun p ys H3 _ e3 h r => k _ H3 e3 ⟨p, ys, rfl, h, r⟩⟩
theorem ep_empty2 : EvP (tTup (tCons (tTup tNil) (tCons (tTup tNil) tNil))) σ H (isD K (ptD ⟨false, false⟩ [])) := by
  refine ep_tupA (n := 2) (Rs := fun vs H1 => DpAll K H1 vs [strsD (ntsS ⟨false, false⟩), rowsD []]) (fun H1 e1 Q q => ?_) (fun vs H1 h => dps_len h) (by decide) fun vs a H1 H2 _ h e h2 => .tup (SqT.of h2) (dpsX e _ _ h)
  refine (el_cons (K := K) (ep_imp (ep_tup (K := K) ea_nil (by decide)) fun v H2 _ ⟨a, e2, h⟩ => by
    subst e2
    exact .tup h .nil) (el_cons (ep_imp (ep_tup (K := K) ea_nil (by decide)) fun v H2 _ ⟨a, e2, h⟩ => by
    subst e2
    exact .tup h .nil) el_nil)) H1 e1 _ fun vs H2 e2 r => q vs H2 e2 r
end
def spConflict (K : PySem.W.Frag) : Sp := fun vs H Q _ => ∃ nv n y b ws, vs = [nv, .str (wayS y), .ref b] ∧ Dp K H nv (strsD (ntsS n)) ∧ SqL K H b (wsV ws) ∧ ws.length ≤ 5 ∧ RetV (.bl (conflictL n y ws)) H Q
theorem cal_law_conflict (T : Txt K mg) : Cal P w K mg base 6 "_law_conflict" (spConflict K) [] := by
  obtain ⟨fd, F⟩ := T.f_law_conflict
  refine calD F T.g_law_conflict (F.bindsN fun _ _ _ _ _ _ us hl => match us, hl with | [_, _, _], _ => rfl) sc_law_conflict (fun vs H Q E h => ?_) (fun cdv A outer s H vs Q E hr h => ?_)
  · obtain ⟨nv, n, y, b, ws, rfl, _⟩ := h
    rfl
  · obtain ⟨nv, n, y, b, ws, rfl, hN, hB, hw5, k⟩ := h
    refine ⟨_, (pss_cons (ps_set (i := 3) sc_law_conflict.nd rfl (Or.inl rfl) (pe_lst pa_nil))
      (pss_cons (ps_for PassesOwn.never rfl (pi_list (pe_lst (pa_cons pe_int (pa_cons pe_non pa_nil)))) (pg_name (i := 4) sc_law_conflict.nd rfl (Or.inl rfl))
        (pss_one (ps_expr (pe_bm PySem.F.plainAttrs_list PySem.F.slot_list_append PySem.F.type_list_append mt_append (pv 3) (pa_cons (pe_c (cal_law_new T) hr (by decide) rfl (pa_cons (pv 4) pa_nil)) pa_nil)))))
      (pss_cons (ps_for PassesOwn.never rfl (pi_range1 (by rfl) T.z_range (pa_cons pe_int pa_nil)) (pg_name (i := 5) sc_law_conflict.nd rfl (Or.inl rfl))
        (pss_cons (ps_set (i := 6) sc_law_conflict.nd rfl (Or.inl rfl) (pe_lst pa_nil))
        (pss_cons (ps_for PassesOwn.never rfl (pi_list (pv 3)) (pg_name (i := 7) sc_law_conflict.nd rfl (Or.inl rfl))
          (pss_one (ps_for PassesOwn.never rfl (pi_list (pe_slice (kSlL K) (pe_c (cal_law_choices T) hr (by decide) rfl (pa_cons (pe_lst (pa_cons (pv 7) pa_nil)) (pa_cons (pv 2) pa_nil))) (po_some pe_int) po_none)) (pg_name (i := 8) sc_law_conflict.nd rfl (Or.inl rfl))
            (pss_one (ps_expr (pe_bm PySem.F.plainAttrs_list PySem.F.slot_list_append PySem.F.type_list_append mt_append (pv 6) (pa_cons (pe_c (cal_law_done T) hr (by decide) rfl (pa_cons (pe_tup (pa_cons (pe_tup pa_nil) (pa_cons (pe_tup pa_nil) pa_nil))) (pa_cons (pv 7) (pa_cons (pv 8) pa_nil)))) pa_nil)))))))
        (pss_one (ps_set (i := 3) sc_law_conflict.nd rfl (Or.inl rfl) (pe_op op_cat (pv 3) (pv 6)))))))
      (pss_cons (ps_for PassesOwn.never rfl (pi_list (pv 3)) (pg_name (i := 9) sc_law_conflict.nd rfl (Or.inl rfl))
        (pss_one (ps_for PassesOwn.never rfl (pi_list (pv 3)) (pg_name (i := 10) sc_law_conflict.nd rfl (Or.inl rfl))
          (pss_one (ps_if (ptc (kEqD K hr) (pe_c (cal_law_sight T) hr (by decide) rfl (pa_cons (pv 0) (pa_cons (pv 9) pa_nil))) (pe_c (cal_law_sight T) hr (by decide) rfl (pa_cons (pv 0) (pa_cons (pv 10) pa_nil))))
            (pss_one (ps_if (pt_not (pt_val (pe_c (cal_law_served T) hr (by decide) rfl (pa_cons (pix (kIxT K) (pe_c (cal_law_due T) hr (by decide) rfl (pa_cons (pv 9) (pa_cons (pv 1) pa_nil))) pe_int) (pa_cons (pv 9) (pa_cons (pix (kIxT K) (pe_c (cal_law_due T) hr (by decide) rfl (pa_cons (pv 10) (pa_cons (pv 1) pa_nil))) pe_int) (pa_cons (pv 10) pa_nil)))))))
              (pss_one (ps_ret pe_bl))
              pss_nil))
            pss_nil)))))
      (pss_one (ps_ret pe_bl)))))), ?_⟩
    refine q_asgL (xs := []) (el_lst ea_nil (by show 0 ≤ 100000; decide)) fun sh H1 hsh0 e1 hsh => ?_
    refine q_forNLn (j := 4) (xs := [.int 1, .non]) (el_lst (ea_cons ev_c (ea_cons ev_c ea_nil)) (by show 2 ≤ 100000; decide)) (fun p i σ' H' => p ≠ sh ∧ H' p = some (.lst [.int 1, .non]) ∧ Ex H H' ∧ ∃ ys u4, σ' = [some nv, some (.str (wayS y)), some (.ref b), some (.ref sh), u4, none, none, none, none, none, none] ∧ H' sh = some (.lst ys) ∧ Paired (fun y s => isS s y H') ys (short0.take i)) (fun p H2 hp e2 h2 => ⟨Ne.symm (ne_of_none hsh hp), h2, e1.trans e2, [], none, rfl, e2 _ _ hsh, .nil⟩) (fun p i σ' H' _ h => SqL.of h.2.1) ?_ ?_
    · rintro p i x σ' H2 hx ⟨np, hp2, e2, ys, u4, rfl, hy, hq⟩
      obtain ⟨o, ho, rfl⟩ : ∃ o, short0[i]? = some (St.first o) ∧ x = vo o := by
        match i, hx with
        | 0, hx =>
          cases hx
          exact ⟨some 1, rfl, rfl⟩
        | 1, hx =>
          cases hx
          exact ⟨none, rfl, rfl⟩
        | _ + 2, hx => cases hx
      have ly : ys.length ≤ 2 := by
        rw [Paired.length hq]
        have := List.length_take_le' i short0
        exact this
      refine s_appQ (l := sh) (R := isS (St.first o)) hy (ev_var rfl) (ep_call (sp := spNew K) (ea_cons (ev_var rfl) ea_nil) fun H3 e Q k E => ⟨o, rfl, k⟩) (by omega) fun v H3 e3 hv => ?_
      have eL := grow_exL (o := .lst (ys ++ [v])) (e3 _ _ hy) (pair_S (lOf e3) hq)
      refine ⟨np, by rw [upd_ne np]; exact e3 _ _ hp2, Ex.mut (e2.trans e3) hsh0, ys ++ [v], _, rfl, upd_same, ?_⟩
      rw [take_next ho]
      exact paired_snoc (F := fun y s => isS s y _) (hv.l eL) (pair_S ((lOf e3).trans eL) hq)
    · rintro p σ' H2 ⟨_, _, e2, ys, u4, rfl, hy, hq⟩
      have hq : Paired (fun y s => isS s y H2) ys (shortN ws 0) := hq
      refine q_forR1 (n := 2) (j := 5) (ea_cons ev_c ea_nil) (by decide) (fun i σ' H' => Ex H H' ∧ ∃ sh ys u5 u6 u7 u8, σ' = [some nv, some (.str (wayS y)), some (.ref b), some (.ref sh), u4, u5, u6, u7, u8, none, none] ∧ H' sh = some (.lst ys) ∧ Paired (fun y s => isS s y H') ys (shortN ws i)) (fun H3 e3 => ⟨e2.trans e3, sh, ys, none, none, none, none, rfl, e3 _ _ hy, pair_S (lOf e3) hq⟩) ?_ ?_
      · rintro i σ' H3 hi ⟨e3, sh, ys, u5, u6, u7, u8, rfl, hy, hq⟩
        have lsh : (shortN ws i).length ≤ 72 := by
          have h := short_len ws hw5
          match i, hi with
          | 0, _ => exact Nat.le_trans h.1 (by decide)
          | 1, _ => exact h.2
          | i + 2, hi => exact absurd hi (by omega)
        refine q_asgL (xs := []) (el_lst ea_nil (by show 0 ≤ 100000; decide)) fun lg H4 hlg0 e4 hlg => ?_
        refine q_forLn (j := 7) (ev_var rfl) (SqL.of (e4 _ _ hy)) (fun m σ' H' => Ex H3 H' ∧ ∃ zs u7 u8, σ' = [some nv, some (.str (wayS y)), some (.ref b), some (.ref sh), u4, some (.int (i : Int)), some (.ref lg), u7, u8, none, none] ∧ H' lg = some (.lst zs) ∧ Paired (fun y s => isS s y H') zs (((shortN ws i).take m).flatMap (nextsL ws))) (fun H5 e5 => ⟨e4.trans e5, [], u7, u8, rfl, e5 _ _ hlg, .nil⟩) (fun m σ' H' _ h => SqL.of (h.1 _ _ hy)) ?_ ?_
        · rintro m x σ' H5 hx ⟨e5, zs, u7, u8, rfl, hz, hzq⟩
          obtain ⟨s, hs, hS3⟩ := paired_get hq hx
          have hS : isS s x H5 := hS3.x e5
          have e05 := e3.trans e5
          have tk : ((shortN ws i).take (m + 1)).flatMap (nextsL ws) = ((shortN ws i).take m).flatMap (nextsL ws) ++ nextsL ws s := take_fm hs
          have lz : zs.length ≤ 72 * 35 := by
            rw [Paired.length hzq]
            refine Nat.le_trans (fm_le (fun s => nexts_len ws s hw5) _) (Nat.mul_le_mul_right _ (Nat.le_trans (List.length_take_le' _ _) lsh))
          refine s_forSl (Rb := fun e => isD K (evD e)) (as := carsL ++ evsL s ws) (ep_choices hS (ex_l e05 hB) hw5 (ev_var rfl) (ev_var rfl)) (fun e => (stb_isD K (noL_ev e)).s) fun p es H6 hp0 e6 hp6 hpq => ?_
          have hpq : Paired (fun y e => isD K (evD e) y H6) es (evsL s ws) := hpq
          have npl : p ≠ lg := Ne.symm (ne_of_none hz hp0)
          have le : es.length ≤ 35 := by
            rw [Paired.length hpq]
            have := evsL_len s ws
            omega
          refine s_forLn (j := 8) ev_c (SqL.of hp6) (fun q σ' H' => Ex H3 H' ∧ H' p = some (.lst es) ∧ Paired (fun y e => isD K (evD e) y H') es (evsL s ws) ∧ isS s x H' ∧ ∃ zs u8, σ' = [some nv, some (.str (wayS y)), some (.ref b), some (.ref sh), u4, some (.int (i : Int)), some (.ref lg), some x, u8, none, none] ∧ H' lg = some (.lst zs) ∧ Paired (fun y s => isS s y H') zs (((shortN ws i).take m).flatMap (nextsL ws) ++ ((evsL s ws).take q).map (happened s []))) (fun H7 e7 => ⟨(e5.trans e6).trans e7, e7 _ _ hp6, pair_evs (tOf e7) hpq, hS.x (e6.trans e7), zs, u8, rfl, e7 _ _ (e6 _ _ hz), by
            rw [List.take_zero, List.map_nil, List.append_nil]
            exact pair_S (lOf (e6.trans e7)) hzq⟩) (fun q σ' H' _ h => SqL.of h.2.1) ?_ ?_
          · rintro q ev σ' H7 hev ⟨e7, hp7, hes, hS7, zs', u8', rfl, hz', hzq'⟩
            obtain ⟨e, he, hE⟩ := paired_get hes hev
            have lz' : zs'.length ≤ 72 * 35 + 35 := by
              rw [Paired.length hzq', List.length_append, List.length_map, ← Paired.length hzq]
              have h1 := List.length_take_le' q (evsL s ws)
              have h2 := evsL_len s ws
              omega
            refine s_appQ (l := lg) (R := isS (happened s [] e)) hz' (ev_var rfl) (ep_callA (eas_cons ep_empty2 (stb_isD K (noL_pt _ _)).s (eas_v (ev_var rfl) (eas_v (ev_var rfl) eas_nil))) fun vs H8 e8 ⟨u, r, h1, h2, r2, h3, r3, h4, h5⟩ => by
              subst h1 h3 h4 h5
              exact fun H9 e9 Q k E => ⟨u, ⟨false, false⟩, [], x, s, ev, e, rfl, dpX e9 _ _ h2, rw_nil, hS7.x (e8.trans e9), dpX (e8.trans e9) _ _ hE, evs_ok (List.mem_of_getElem? he), k⟩) (by omega) fun v H8 e8 hv => ?_
            have eL := grow_exL (o := .lst (zs' ++ [v])) (e8 _ _ hz') (pair_S (lOf e8) hzq')
            have eT := lst_exT (o := .lst (zs' ++ [v])) (e8 _ _ hz')
            refine ⟨Ex.mut (e7.trans e8) hlg0, by rw [upd_ne npl]; exact e8 _ _ hp7, pair_evs ((tOf e8).trans eT) hes, hS7.l ((lOf e8).trans eL), zs' ++ [v], _, rfl, upd_same, ?_⟩
            rw [take_next he, List.map_append, ← List.append_assoc]
            exact paired_snoc (F := fun y s => isS s y _) (hv.l eL) (pair_S ((lOf e8).trans eL) hzq')
          · rintro σ' H7 ⟨e7, _, _, _, zs', u8', rfl, hz', hzq'⟩
            refine ⟨e7, zs', _, u8', rfl, hz', ?_⟩
            rw [tk]
            rw [show es.length = (evsL s ws).length from Paired.length hpq, List.take_of_length_le (Nat.le_refl _)] at hzq'
            exact hzq'
        · rintro σ' H5 ⟨e5, zs, u7, u8, rfl, hz, hzq⟩
          rw [show ys.length = (shortN ws i).length from Paired.length hq, List.take_of_length_le (Nat.le_refl _)] at hzq
          refine s_asgL (xs := ys ++ zs) (el_catM (ep_varL rfl (e5 _ _ hy)) (ep_varL rfl hz) ?_) fun p H6 _ e6 h6 => ⟨(e3.trans e5).trans e6, p, ys ++ zs, _, _, _, _, rfl, h6, paired_app (pair_S (lOf (e5.trans e6)) hq) (pair_S (lOf e6) hzq)⟩
          have h1 := Paired.length hq
          have h2 := Paired.length hzq
          have h3 := fm_le (f := nextsL ws) (fun s => nexts_len ws s hw5) (shortN ws i)
          have h4 : (shortN ws i).length * 35 ≤ 72 * 35 := Nat.mul_le_mul_right _ lsh
          omega
      · rintro σ' H3 ⟨e3, sh, ys, u5, u6, u7, u8, rfl, hy, hq⟩
        have hq : Paired (fun y s => isS s y H3) ys (shortL ws) := hq
        have cl : ∀ {σ : L2.St} {H' : Hp} {x z : V} {s t : St}, Ex H3 H' → isS s x H' → isS t z H' → σ[0]? = some (some nv) → σ[1]? = some (some (.str (wayS y))) → σ[9]? = some (some x) → σ[10]? = some (some z) →
            EvT (tTest (tOp (rEqD K) (tCall (spSight K) [] C8.E0 (tCons (tVar 0) (tCons (tVar 9) tNil))) (tCall (spSight K) [] C8.E0 (tCons (tVar 0) (tCons (tVar 10) tNil))))) σ H' (decide (sightL n s = sightL n t)) := fun e h1 h2 a0 a1 a9 a10 =>
          et_eqBs (ep_sight (dpX (e3.trans e) _ _ hN) h1 (ev_var a0) (ev_var a9)) (ep_sight (dpX (e3.trans e) _ _ hN) h2 (ev_var a0) (ev_var a10))
        refine q_forLn (j := 9) (ev_var rfl) (SqL.of hy) (fun i σ' H' => Ex H3 H' ∧ (∃ u9 u10, σ' = [some nv, some (.str (wayS y)), some (.ref b), some (.ref sh), u4, u5, u6, u7, u8, u9, u10]) ∧ ∀ s ∈ (shortL ws).take i, ((shortL ws).any fun t => clash n y s t) = false) (fun H4 e4 => ⟨e4, ⟨none, none, rfl⟩, by rw [List.take_zero]; intro s h; cases h⟩) (fun i σ' H' _ h => SqL.of (h.1 _ _ hy)) ?_ ?_
        · rintro i x σ' H4 hx ⟨e4, ⟨u9, u10, rfl⟩, hno⟩
          obtain ⟨s, hs, hS3⟩ := paired_get hq hx
          refine s_forLn (j := 10) (ev_var rfl) (SqL.of (e4 _ _ hy)) (fun m σ' H' => Ex H3 H' ∧ (∃ u10, σ' = [some nv, some (.str (wayS y)), some (.ref b), some (.ref sh), u4, u5, u6, u7, u8, some x, u10]) ∧ ∀ t ∈ (shortL ws).take m, clash n y s t = false) (fun H5 e5 => ⟨e4.trans e5, ⟨_, rfl⟩, by rw [List.take_zero]; intro t h; cases h⟩) (fun m σ' H' _ h => SqL.of (h.1 _ _ hy)) ?_ ?_
          · rintro m z σ' H5 hz ⟨e5, ⟨u10', rfl⟩, hno2⟩
            obtain ⟨t, ht, hT3⟩ := paired_get hq hz
            have step : clash n y s t = false → ∀ t' ∈ (shortL ws).take (m + 1), clash n y s t' = false := fun hc t' ht' => by
              rw [take_next ht] at ht'
              rcases List.mem_append.mp ht' with h | h
              · exact hno2 t' h
              · obtain rfl := List.mem_singleton.mp h
                exact hc
            refine s_when (cl e5 (hS3.x e5) (hT3.x e5) rfl rfl rfl rfl) (fun hsame H6 e6 => ?_) fun hd H6 e6 => ?_
            · have e36 := e5.trans e6
              refine s_when (et_not (et_B (ev_served (hS3.x e36) (hT3.x e36) (ev_ldue (hS3.x e36).dp (ev_var rfl) (ev_var rfl)) (ev_var rfl) (ev_ldue (hT3.x e36).dp (ev_var rfl) (ev_var rfl)) (ev_var rfl)))) (fun hs2 H7 e7 => ?_) fun hs2 H7 e7 => ?_
              · have hc : conflictL n y ws = true := conflict_of (List.mem_of_getElem? hs) (List.mem_of_getElem? ht) (by
                  unfold clash
                  rw [hsame, hs2]
                  rfl)
                rw [hc] at k
                exact s_ret ev_c fun H8 e8 => k H8 (((e3.trans e36).trans e7).trans e8)
              · refine ⟨e36.trans e7, ⟨_, rfl⟩, step ?_⟩
                unfold clash
                rw [hs2, Bool.and_false]
            · refine ⟨e5.trans e6, ⟨_, rfl⟩, step ?_⟩
              unfold clash
              rw [hd, Bool.false_and]
          · rintro σ' H5 ⟨e5, ⟨u10', rfl⟩, hno2⟩
            rw [show ys.length = (shortL ws).length from Paired.length hq, List.take_of_length_le (Nat.le_refl _)] at hno2
            refine ⟨e5, ⟨_, _, rfl⟩, fun s' hs' => ?_⟩
            rw [take_next hs] at hs'
            rcases List.mem_append.mp hs' with h | h
            · exact hno s' h
            · obtain rfl := List.mem_singleton.mp h
              exact List.any_eq_false.mpr fun t ht => by rw [hno2 t ht]; decide
        · rintro σ' H4 ⟨e4, ⟨u9, u10, rfl⟩, hno⟩
          rw [show ys.length = (shortL ws).length from Paired.length hq, List.take_of_length_le (Nat.le_refl _)] at hno
          have hc : conflictL n y ws = false := List.any_eq_false.mpr fun s hs => by rw [hno s hs]; decide
          rw [hc] at k
          exact s_ret ev_c fun H5 e5 => k H5 ((e3.trans e4).trans e5)
end
end Ci

set_option Elab.async false
set_option linter.all false
set_option maxRecDepth 100000
set_option maxHeartbeats 4000000
/-! Layers: lists of lists of states, filled. -/
namespace Ci
open PySem PySem.Spec PyProof.Rows L2 Evl
open C8 (Cal Met Mak pe_c pe_mk pe_mt pe_mt0 pe_gc)
/-! ### what stands though lists of lists are filled -/
def ImmM (H : Hp) (o : HO) : Prop := ImmL o ∨ ∃ xs r o', o = .lst xs ∧ xs.getLast? = some (.ref r) ∧ H r = some o' ∧ ImmL o'
def ExM (H H' : Hp) : Prop := ∀ a o, H a = some o → ImmM H o → H' a = some o
theorem ExM.l {H H' : Hp} (e : ExM H H') : ExL H H' := fun a o h i => e a o h (.inl i)
theorem ImmM.m {H H' : Hp} (e : ExM H H') {o : HO} (i : ImmM H o) : ImmM H' o := by
  rcases i with i | ⟨xs, r, o', h1, h2, h3, h4⟩
  · exact .inl i
  · exact .inr ⟨xs, r, o', h1, h2, e _ _ h3 (.inl h4), h4⟩
theorem ExM.refl (H : Hp) : ExM H H := fun _ _ h _ => h
theorem ExM.trans {H H1 H2 : Hp} (a : ExM H H1) (b : ExM H1 H2) : ExM H H2 := fun x o h i => b x o (a x o h i) (i.m a)
theorem mOf {H H' : Hp} (e : Ex H H') : ExM H H' := fun a o h _ => e a o h
theorem ExM.t {H H' : Hp} (e : ExM H H') : ExT H H' := fun a o h i => e a o h (.inl (.inl i))
theorem exM_upd {H : Hp} {p : Addr} {o u : HO} (h : H p = some o) (n : ¬ ImmM H o) : ExM H (L2.upd H p u) := fun a z ha i => by
  by_cases hp : a = p
  · subst hp
    rw [h] at ha
    cases ha
    exact absurd i n
  · rw [upd_ne hp]
    exact ha
/-- the list of one state -/
def isSS (s : St) : Pr := fun v H => ∃ a u, v = .ref a ∧ H a = some (.lst [u]) ∧ isS s u H
theorem isS.ref {s : St} {v : V} {H : Hp} (h : isS s v H) : ∃ b o, v = .ref b ∧ H b = some o ∧ ImmL o := by
  obtain ⟨b, w, h1, h2, _⟩ := h
  exact ⟨b, _, h1, h2, .inr ⟨_, .bl s.mine, rfl, rfl, rfl⟩⟩
theorem isSS.m {s : St} {v : V} {H H' : Hp} (e : ExM H H') (h : isSS s v H) : isSS s v H' := by
  obtain ⟨a, u, h1, h2, h3⟩ := h
  obtain ⟨b, o, rfl, hb, hi⟩ := h3.ref
  exact ⟨a, .ref b, h1, e _ _ h2 (.inr ⟨_, b, o, rfl, rfl, hb, hi⟩), h3.l e.l⟩
theorem isSS.x {s : St} {v : V} {H H' : Hp} (e : Ex H H') (h : isSS s v H) : isSS s v H' := h.m (mOf e)
theorem pair_SS {H H' : Hp} (e : ExM H H') {ys : List V} {bs : List St} (h : Paired (fun y s => isSS s y H) ys bs) : Paired (fun y s => isSS s y H') ys bs := Paired.mapP h fun _ _ z => z.m e
theorem last_pair {α : Type} {F : V → α → Prop} : ∀ {ys : List V} {bs : List α} {x : V}, Paired F ys bs → ys.getLast? = some x → ∃ b, F x b
  | _, _, _, .nil, h => by cases h
  | [_], _, x, .cons r _, h => by
    cases h
    exact ⟨_, r⟩
  | _ :: _ :: _, _, x, .cons _ t, h => last_pair t (by rw [List.getLast?_cons_cons] at h; exact h)
theorem ss_noL {H : Hp} {ys : List V} {bs : List St} (hp : Paired (fun y s => isSS s y H) ys bs) : ¬ ImmL (.lst ys) := by
  rintro (h | ⟨xs, x, e, h2, h3⟩)
  · exact h
  · cases e
    obtain ⟨s, a, u, rfl, _⟩ := last_pair hp h2
    cases h3
theorem ss_noM {H : Hp} {ys : List V} {bs : List St} (hp : Paired (fun y s => isSS s y H) ys bs) : ¬ ImmM H (.lst ys) := by
  rintro (h | ⟨xs, r, o', e, h2, h3, h4⟩)
  · exact ss_noL hp h
  · cases e
    obtain ⟨s, a, u, e, ha, hu⟩ := last_pair hp h2
    cases e
    rw [h3] at ha
    cases ha
    obtain ⟨b, o, rfl, _⟩ := hu.ref
    rcases h4 with h | ⟨ws, x, e, k2, k3⟩
    · exact h
    · cases e
      cases k2
      cases k3
theorem mut_l {H : Hp} {g : Addr} {ys : List V} {bs : List St} {o : HO} (hg : H g = some (.lst ys)) (hp : Paired (fun y s => isSS s y H) ys bs) : ExM H (L2.upd H g o) := exM_upd hg (ss_noM hp)
theorem mut_d {H : Hp} {g : Addr} {kvs : List (List Key × V)} {o : HO} (hg : H g = some (.dT kvs)) : ExM H (L2.upd H g o) := exM_upd hg (by
  rintro ((h | ⟨_, _, e, _⟩) | ⟨_, _, _, e, _⟩)
  · exact h
  · cases e
  · cases e)
/-- a layer -/
def frP (P : St → Prop) (f : V) (H : Hp) : Prop := ∃ p ss zs, f = .ref p ∧ H p = some (.lst zs) ∧ Paired (fun x s => isSS s x H) zs ss ∧ ∀ s ∈ ss, P s
section
variable {P : St → Prop} {f : V} {H H' : Hp} {b : Addr} {o : HO}
theorem frP.x (h : frP P f H) (e : Ex H H') : frP P f H' := by
  obtain ⟨p, ss, zs, h1, h2, h3, h4⟩ := h
  exact ⟨p, ss, zs, h1, e _ _ h2, pair_SS (mOf e) h3, h4⟩
theorem frP.upd (h : frP P f H) (n : f ≠ .ref b) (e : ExM H (L2.upd H b o)) : frP P f (L2.upd H b o) := by
  obtain ⟨p, ss, zs, h1, h2, h3, h4⟩ := h
  exact ⟨p, ss, zs, h1, by rw [upd_ne fun z => n (by rw [h1, z])]; exact h2, pair_SS e h3, h4⟩
theorem frP.ne (h : frP P f H) (hb : H b = none) : f ≠ .ref b := by
  rintro rfl
  obtain ⟨p, ss, zs, h1, h2, _⟩ := h
  cases h1
  rw [hb] at h2
  cases h2
theorem frP.neD {kvs : List (List Key × V)} (h : frP P f H) (hb : H b = some (.dT kvs)) : f ≠ .ref b := by
  rintro rfl
  obtain ⟨p, ss, zs, h1, h2, _⟩ := h
  cases h1
  rw [hb] at h2
  cases h2
theorem mut_h {fs : List V} (h : ∀ f ∈ fs, frP P f H) (hb : H b = some (.lst fs)) : ExM H (L2.upd H b o) := exM_upd hb (by
  rintro ((h | ⟨xs, x, e, h2, h3⟩) | ⟨xs, r, o', e, h2, h3, h4⟩)
  · exact h
  · cases e
    obtain ⟨p, ss, zs, h1, _⟩ := h _ (List.mem_of_getLast? h2)
    subst h1
    cases h3
  · cases e
    obtain ⟨p, ss, zs, h1, k2, k3, _⟩ := h _ (List.mem_of_getLast? h2)
    cases h1
    rw [h3] at k2
    cases k2
    exact ss_noL k3 h4)
end
theorem kiList (K : PySem.W.Frag) {X : Cx} {tg l : Expr} {tl : TE} (hl : PE X l tl) (hK : X.K = K := by rfl) : PI X tg l (iList K tl) := by
  subst hK
  exact pi_list hl
/-! ### comprehensions that give states -/
section
variable {K : PySem.W.Frag} {α : Type} {wi : TI} {g : TG} {te tl : TE} {vs : List Nat} {σ : L2.St} {H : Hp} {tu : TS} {D : Ends} {R : List V → Hp → Prop} {ty td tv : TE} {Ry : Pr}
/-- over one item -/
theorem ep_one {a : α} {s : St} (Ri : α → Pr) (S : L2.St → Hp → Prop) (hi : ItP wi σ H [a] Ri)
    (hg : ∀ x H1, Ex H H1 → Ri a x H1 → ∀ Kt : L2.St → Hp → Prop, (∀ σ2, wipe σ2 vs = wipe σ vs → S σ2 H1 → Kt σ2 H1) → g x (wipe σ vs) H1 Kt)
    (he : ∀ σ2 H1, Ex H H1 → S σ2 H1 → EvP te σ2 H1 (isS s)) : EvP (tLc wi g tYes te vs) σ H (isSS s) := fun H1 e1 Q q => by
  refine hi H1 e1 _ fun J H2 G Y e2 hG w hY => ?_
  intro D hD
  refine lc_it w (fun i H' => H2 D = none ∧ Ex H2 H' ∧ (i = 0 → H' D = some (.lst [])) ∧ (i = 1 → ∃ v, H' D = some (.lst [v]) ∧ isS s v H')) ⟨hD, Ex.new hD, fun _ => upd_same, fun h => (by cases h)⟩ (fun i H' _ p => hG H' p.2.1) ?_ ?_
  · rintro i x Ha Hb hlt ⟨pD, pe, h0, _⟩ y
    have hi0 : i = 0 := by
      have : i < 1 := hlt
      omega
    subst hi0
    obtain ⟨a', ha, eab, ri⟩ := hY 0 Ha x Hb pe y hlt
    cases ha
    have eb : Ex H Hb := (e1.trans e2).trans (pe.trans eab)
    refine hg x Hb eb ri _ fun σ2 hw2 s2 => ⟨hw2, ?_⟩
    refine ev_tYes (H := Hb) Hb (Ex.refl _) _ fun H3 e3 => ?_
    rw [if_pos rfl]
    refine he σ2 Hb eb s2 H3 e3 _ fun v H4 e34 r4 => ?_
    have e4 := e3.trans e34
    have hys4 : H4 D = some (.lst []) := e4 _ _ (eab _ _ (h0 rfl))
    refine ⟨[], hys4, sz_lt (by decide), pD, Ex.mut ((pe.trans eab).trans e4) pD, fun h => (by cases h), fun _ => ⟨v, upd_same, r4.l ?_⟩⟩
    exact ExL.upd (ExL.refl _) hys4 nil_imm
  · rintro H' ⟨pD, pe, _, h1⟩
    obtain ⟨v, hv, hs⟩ := h1 rfl
    exact q (.ref D) H' (e2.trans pe) ⟨D, v, rfl, hv, hs⟩
/-- of lists of one state -/
theorem ep_compSS {Ri : α → Pr} (as : List α) (gb : α → St) (S : α → L2.St → Hp → Prop) (hi : ItP wi σ H as Ri)
    (hg : ∀ a x H1, a ∈ as → Ex H H1 → Ri a x H1 → ∀ Kt : L2.St → Hp → Prop, (∀ σ2, wipe σ2 vs = wipe σ vs → S a σ2 H1 → Kt σ2 H1) → g x (wipe σ vs) H1 Kt)
    (he : ∀ a σ2 H1, a ∈ as → Ex H H1 → S a σ2 H1 → EvP te σ2 H1 (isSS (gb a))) (hz : as.length ≤ 1000) : EvP (tLc wi g tYes te vs) σ H (fun v H' => ∃ p ys, v = .ref p ∧ H' p = some (.lst ys) ∧ Paired (fun y s => isSS s y H') ys (as.map gb)) := fun H1 e1 Q q => by
  refine hi H1 e1 _ fun J H2 G Y e2 hG w hY => ?_
  intro D hD
  refine lc_it w (fun i H' => H2 D = none ∧ Ex H2 H' ∧ ∃ ys, H' D = some (.lst ys) ∧ Paired (fun y s => isSS s y H') ys ((as.take i).map gb)) ⟨hD, Ex.new hD, [], upd_same, by rw [List.take_zero]; exact .nil⟩ (fun i H' _ p => hG H' p.2.1) ?_ ?_
  · rintro i x Ha Hb hlt ⟨pD, pe, ys, hys, hp⟩ y
    obtain ⟨a, ha, eab, ri⟩ := hY i Ha x Hb pe y hlt
    have hm : a ∈ as := List.mem_of_getElem? ha
    have eb : Ex H Hb := (e1.trans e2).trans (pe.trans eab)
    refine hg a x Hb hm eb ri _ fun σ2 hw2 s2 => ⟨hw2, ?_⟩
    refine ev_tYes (H := Hb) Hb (Ex.refl _) _ fun H3 e3 => ?_
    rw [if_pos rfl]
    refine he a σ2 Hb hm eb s2 H3 e3 _ fun v H4 e34 r4 => ?_
    have e4 := e3.trans e34
    have hys4 : H4 D = some (.lst ys) := e4 _ _ (eab _ _ hys)
    have hp4 := pair_SS (mOf (eab.trans e4)) hp
    have hl : ys.length ≤ 1000 := by
      rw [Paired.length hp, List.length_map]
      exact Nat.le_trans (List.length_take_le' _ _) hz
    have eM := mut_l (o := .lst (ys ++ [v])) hys4 hp4
    refine ⟨ys, hys4, sz_lt (by omega), pD, Ex.mut ((pe.trans eab).trans e4) pD, ys ++ [v], upd_same, ?_⟩
    rw [take_next ha, List.map_append]
    exact paired_snoc (F := fun y s => isSS s y _) (r4.m eM) (pair_SS eM hp4)
  · rintro H' ⟨pD, pe, ys, hys, hp⟩
    refine q (.ref D) H' (e2.trans pe) ⟨D, ys, rfl, hys, ?_⟩
    rw [List.take_of_length_le (Nat.le_refl _)] at hp
    exact hp
def EvN (te : TE) (σ : L2.St) (H : Hp) (R : List V → Hp → Prop) : Prop := ∀ H1, Ex H H1 → ∀ Q : VK, RetN R H1 Q → te σ H1 Q
theorem s_forN (h : EvN tl σ H R) (hk : ∀ p ys H1, H p = none → Ex H H1 → H1 p = some (.lst ys) → R ys H1 → tFor (iList K (tC (.ref p))) g tu D σ H1) : tFor (iList K tl) g tu D σ H :=
  h H (Ex.refl _) _ fun p ys H1 hp e h1 r => hk p ys H1 hp e h1 r
theorem en_choices {b a : Addr} {v : V} {s : St} {ws : List Word} {ta tb : TE} {E : XK} (hA : H a = some (.lst [v])) (hS : isS s v H) (hB : SqL K H b (wsV ws)) (h5 : ws.length ≤ 5) (ha : Ev ta σ H (.ref a)) (hb : Ev tb σ H (.ref b)) : EvN (tCall (spChoices K) [] E (tCons ta (tCons tb tNil))) σ H (evsR K (carsL ++ evsL s ws)) := fun H1 e1 Q q =>
  (ea_cons ha (ea_cons hb ea_nil)) H1 e1 _ fun H2 e2 => ⟨a, b, v, s, ws, rfl, SqL.of ((e1.trans e2) _ _ hA), hS.x (e1.trans e2), ex_l (e1.trans e2) hB, h5, fun p ys H3 hp e3 h r => q p ys H3 (fresh_back e2 hp) (e2.trans e3) h r⟩
theorem s_dputP {a : Addr} {v : V} (hv : Ev tv σ H v) (hd : Ev td σ H (.ref a)) (hy : EvP ty σ H Ry) (k : ∀ y H1, Ex H H1 → Ry y H1 → ∃ H4, DPut H1 a y v H4 ∧ D.nx σ H4) : sDPut td ty tv D σ H :=
  hv H (Ex.refl _) _ fun H1 e1 => hd H1 e1 _ fun H2 e2 => hy H2 (e1.trans e2) _ fun y H3 e3 r => by
    obtain ⟨H4, h1, h2⟩ := k y H3 ((e1.trans e2).trans e3) r
    exact ⟨a, H4, rfl, h1, h2⟩
/-! the data of a layer -/
def ssD (s : St) : PyData := .list [stD s]
theorem lay_st (s : St) : PyData.canLay0 (ssD s) = true ∧ PyData.depth (ssD s) ≤ 8 := by
  obtain ⟨u, h, b, w, m⟩ := s
  cases u <;> cases h <;> cases b <;> (rcases w with _ | (_ | w)) <;> simp [ssD, stD, valD, wiD, PyData.canLay0, PyData.canLayAll0, PyData.depth, PyData.depthAll]
theorem dps_ss : ∀ {ys : List V} {ss : List St}, Paired (fun y s => isSS s y H) ys ss → DpAll K H ys (ss.map ssD)
  | _, _, .nil => .nil
  | _, _, .cons r t => by
    obtain ⟨a, u, rfl, h2, h3⟩ := r
    exact .cons (.lst (SqL.of h2) (.cons h3.dp .nil)) (dps_ss t)
theorem et_neNil {i : Nat} {la : Addr} {ls : List V} {ss : List St} (hσ : σ[i]? = some (some (.ref la))) (hl : H la = some (.lst ls)) (hp : Paired (fun y s => isSS s y H) ls ss) : EvT (tTest (tOp (rNeD K) (tVar i) (tLst tNil))) σ H (!ss.isEmpty) := fun H1 e1 Q q =>
  ⟨.ref la, hσ, sz_of (by decide), fun r hr => by
    have en : Ex H1 (L2.upd H1 r (.lst [])) := Ex.new hr
    refine ⟨_, _, .lst (SqL.of (en _ _ (e1 _ _ hl))) (dps_ss (pair_SS (mOf (e1.trans en)) hp)), .lst (SqL.of upd_same) .nil, sh_list lay_st ss, by decide +kernel, _, rfl, ?_⟩
    rw [eqv_nil]
    have e : (ss.map ssD).isEmpty = ss.isEmpty := by cases ss <;> rfl
    rw [e]
    exact q _ en⟩
end
/-! ### what is seen -/
theorem few_known {ks : List St} (nd : (ks.map lkey).Nodup) : ks.length ≤ 1920 := by
  have := few_keys1 (n := 1) (Nat.le_refl 1) (L := ks.map fun s => [s]) (fun S hS => by
    obtain ⟨s, _, rfl⟩ := List.mem_map.mp hS
    rfl) (by
    rw [List.map_map]
    refine List.pairwise_map.mpr ?_
    refine List.Pairwise.imp ?_ (List.pairwise_map.mp nd)
    exact fun hne e => hne (key_lkey e))
  rwa [List.length_map] at this
end Ci

set_option Elab.async false
set_option linter.all false
set_option maxRecDepth 100000
set_option maxHeartbeats 4000000
/-! _law_layers, of one rule. -/
namespace Ci
open PySem PySem.Spec PyProof.Rows L2 Evl
open C8 (Cal Met Mak pe_c pe_mk pe_mt pe_mt0 pe_gc)
def PathS (rows : Rl) (ws : List Word) (s : St) : Prop := ∃ h, Path [rows] ws [s] h
theorem evs_inW {s : St} {ws : List Word} {e : Evt} (h : e ∈ carsL ++ evsL s ws) : e.inW ws ∧ e.ok = true := by
  rcases List.mem_append.mp h with h | h
  · rcases List.mem_cons.mp h with rfl | h
    · exact ⟨trivial, rfl⟩
    · obtain rfl := List.mem_singleton.mp h
      exact ⟨trivial, rfl⟩
  · refine ⟨?_, evs_ok h⟩
    obtain ⟨w, hw, he⟩ := List.mem_flatMap.mp h
    unfold evsW at he
    split at he
    · rename_i hv
      obtain ⟨i, _, rfl⟩ := List.mem_map.mp he
      exact ⟨hw, hv⟩
    · rename_i hv
      obtain rfl := List.mem_singleton.mp he
      exact ⟨hw, by cases hq : w.valued with
        | true => exact absurd hq hv
        | false => rfl⟩
theorem PathS.step {rows : Rl} {ws : List Word} {s : St} {e : Evt} (p : PathS rows ws s) (he : e.inW ws) : PathS rows ws (happened s rows e) := by
  obtain ⟨⟨v, es⟩, p⟩ := p
  have ag : agree [s] = true := by
    show ([s].all fun t => decide (t.here = s.here)) = true
    simp
  exact ⟨_, Path.step p ag he⟩
section
variable {K : PySem.W.Frag} {σ : L2.St} {H : Hp} {tl : TE} {α : Type} {xs : List V} {as : List α} {Ri : α → Pr}
theorem it_newL (h : EvL tl σ H xs) (hp : Paired (fun x b => ∀ H1, Ex H H1 → Ri b x H1) xs as) : ItP (iList K tl) σ H as Ri := fun H1 e1 Rk k =>
  h H1 e1 _ fun a H2 _ e2 ha => ⟨a, rfl, ⟨xs, SqL.of ha⟩, k (Itl K a) H2 (fun H' => SqL K H' a xs) (YAt xs) e2 (fun H3 e3 => SqL.of (e3 _ _ ha)) (by rw [← Paired.length hp]; exact walk_list) fun i Ha x Hb ea y hi => by
    obtain ⟨rfl, hy⟩ := y
    obtain ⟨b, hb, rb⟩ := paired_get hp hy
    exact ⟨b, hb, Ex.refl _, rb _ ((e1.trans e2).trans ea)⟩⟩
end
/-- what stands at the head of the loop -/
structure LyAt (P : St → Prop) (H : Hp) (xh xk xa : Addr) (fl ll : List V) (ss ks : List St) (kvs : List (List Key × V)) : Prop where
  lh : H xh = some (.lst fl)
  fs : ∀ f ∈ fl, frP P f H
  nl : ∀ f ∈ fl, f ≠ .ref xh
  kn : H xk = some (.dT kvs)
  keys : kvs.map (·.1) = ks.map fun s => (lkey s).map Sum.inl
  nd : (ks.map lkey).Nodup
  la : H xa = some (.lst ll)
  ls : Paired (fun x s => isSS s x H) ll ss
  ps : ∀ s ∈ ss, P s
theorem LyAt.x {P : St → Prop} {H H' : Hp} {lh kn la : Addr} {fs ls : List V} {ss ks : List St} {kvs : List (List Key × V)} (L : LyAt P H lh kn la fs ls ss ks kvs) (e : Ex H H') : LyAt P H' lh kn la fs ls ss ks kvs :=
  ⟨e _ _ L.lh, fun f h => (L.fs f h).x e, L.nl, e _ _ L.kn, L.keys, L.nd, e _ _ L.la, pair_SS (mOf e) L.ls, L.ps⟩
theorem seen_l {ks : List St} {s : St} {kvs : List (List Key × V)} (h : kvs.map (·.1) = ks.map fun s => (lkey s).map Sum.inl) : (valV kvs ((lkey s).map (Sum.inl : Int → Key))).isSome = decide (lkey s ∈ ks.map lkey) := by
  rw [valV_mem, h]
  refine decide_eq_decide.mpr ⟨fun z => ?_, fun z => ?_⟩
  · obtain ⟨e, h1, h2⟩ := List.mem_map.mp z
    exact List.mem_map.mpr ⟨e, h1, inl_inj h2⟩
  · obtain ⟨e, h1, h2⟩ := List.mem_map.mp z
    exact List.mem_map.mpr ⟨e, h1, by rw [h2]⟩
section
variable {P : Program} {w : World} {K : PySem.W.Frag} {mg : Str → Option Value} {base : Heap}
def layP (rows : Rl) (ws : List Word) : Pr := fun v H => ∃ lh fs, v = .ref lh ∧ H lh = some (.lst fs) ∧ ∀ f ∈ fs, frP (PathS rows ws) f H
def spLayers (K : PySem.W.Frag) : Sp := fun vs H Q _ => ∃ ru wd pq n rows ws, vs = [.ref ru, .ref wd] ∧ SqL K H ru [pq] ∧ Dp K H pq (ptD n rows) ∧ RwOk rows ∧ SqL K H wd (wsV ws) ∧ ws.length ≤ 5 ∧ RetP (layP rows ws) H Q
theorem cal_law_layers (T : Txt K mg) : Cal P w K mg base 6 "_law_layers" (spLayers K) [] := by
  obtain ⟨fd, F⟩ := T.f_law_layers
  refine calD F T.g_law_layers (F.bindsN fun _ _ _ _ _ _ us hl => match us, hl with | [_, _], _ => rfl) sc_law_layers (fun vs H Q E h => ?_) (fun cdv A outer s H vs Q E hr h => ?_)
  · obtain ⟨ru, wd, pq, n, rows, ws, rfl, _⟩ := h
    rfl
  · obtain ⟨ru, wd, pq, n, rows, ws, rfl, hR, hP, ok, hW, h5, k⟩ := h
    have hu := Nat.lt_of_le_of_lt (Nat.add_le_add_left (show 1 ≤ 65 by decide) _) (u65 hr)
    refine ⟨_, (pss_cons (ps_par (i := 2) (j := 3) (by rfl) sc_law_layers.nd rfl rfl (by decide) rfl rfl (pa_cons (pe_lst pa_nil) (pa_cons pe_dnewT pa_nil)) (by rfl))
      (pss_cons (ps_setLc (i := 4) (own := [("_law_start", 8)]) (by rfl) sc_law_layers.nd rfl rfl (sw_true rfl rfl rfl (by decide +kernel)) (pi_list (pe_lst (pa_cons pe_int (pa_cons pe_non pa_nil)))) (blkOk_by (own := [("_law_start", 8)]) (N := n_law_layers) (sc := defScope s_law_layers) (by decide +kernel)) (fun _ _ _ _ _ => (pg_name (i := 8) sc_law_layers.nd rfl (Or.inr rfl))) (fun _ _ _ _ _ => pts_nil) (fun _ _ _ _ _ => (pe_lc (own := [("_law_parts", 9)]) (by rfl) sc_law_layers.nd (kiList K (pv 0)) (blkOk_by (own := [("_law_parts", 9)]) (N := n_law_layers) (sc := { kind := .function, names := [(".0", .local), ("_law_start", .cell), ("_law_rules", .cell)], isGenerator := false, isCoroutine := false }) (by decide +kernel)) (fun _ _ _ _ _ => (pg_name (i := 9) sc_law_layers.nd rfl (Or.inl rfl))) (fun _ _ _ _ _ => pts_nil) (fun _ _ _ _ _ => (pe_c (cal_law_new T) hr (by decide) rfl (pa_cons (pv 8) pa_nil))))))
      (pss_cons (ps_while PassesOwn.never (ptc (kNeD K hr) (pv 4) (pe_lst pa_nil))
        (pss_cons (ps_set (i := 5) sc_law_layers.nd rfl (Or.inl rfl) (pe_lst pa_nil))
        (pss_cons (ps_for PassesOwn.never rfl (pi_list (pv 4)) (pg_name (i := 6) sc_law_layers.nd rfl (Or.inr rfl))
          (pss_one (ps_if (pt_cmp (pc_dnotin hu (pe_c (cal_law_key T) hr (by decide) rfl (pa_cons (pv 6) pa_nil)) (pv 3)))
            (pss_cons (ps_dput hu (pv 3) (pe_c (cal_law_key T) hr (by decide) rfl (pa_cons (pv 6) pa_nil)) pe_bl rfl)
            (pss_one (ps_expr (pe_bm PySem.F.plainAttrs_list PySem.F.slot_list_append PySem.F.type_list_append mt_append (pv 5) (pa_cons (pv 6) pa_nil)))))
            pss_nil)))
        (pss_cons (ps_expr (pe_bm PySem.F.plainAttrs_list PySem.F.slot_list_append PySem.F.type_list_append mt_append (pv 2) (pa_cons (pv 5) pa_nil)))
        (pss_cons (ps_set (i := 4) sc_law_layers.nd rfl (Or.inl rfl) (pe_lst pa_nil))
        (pss_one (ps_for PassesOwn.never rfl (pi_list (pv 5)) (pg_name (i := 6) sc_law_layers.nd rfl (Or.inr rfl))
          (pss_one (ps_if (ptc (kEqD K hr) (pe_lcT (own := [("_law_state", 10)]) (by rfl) sc_law_layers.nd (pi_list (pv 6)) (blkOk_by (own := [("_law_state", 10)]) (N := n_law_layers) (sc := defScope s_law_layers) (by decide +kernel)) (fun _ _ _ _ _ => (pg_name (i := 10) sc_law_layers.nd rfl (Or.inl rfl))) (fun _ _ _ _ _ => (ptc op_ne (pix (kIxL K) (pv 10) pe_int) (pix (kIxL K) (pix (kIxL K) (pv 6) pe_int) pe_int))) (fun _ _ _ _ _ => (pv 10))) (pe_lst pa_nil))
            (pss_one (ps_for PassesOwn.never rfl (pi_list (pe_c (cal_law_choices T) hr (by decide) rfl (pa_cons (pv 6) (pa_cons (pv 1) pa_nil)))) (pg_name (i := 7) sc_law_layers.nd rfl (Or.inr rfl))
              (pss_one (ps_expr (pe_bm PySem.F.plainAttrs_list PySem.F.slot_list_append PySem.F.type_list_append mt_append (pv 4) (pa_cons (pe_lc (own := [("_law_parts", 9), ("_law_state", 10)]) (by rfl) sc_law_layers.nd (pi_zip (by rfl) T.z_zip (pa_cons (pv 0) (pa_cons (pv 6) pa_nil))) (blkOk_by (own := [("_law_parts", 9), ("_law_state", 10)]) (N := n_law_layers) (sc := defScope s_law_layers) (by decide +kernel)) (fun _ _ _ _ _ => (kTup K (n := 2) (pgs_cons (pg_name (i := 9) sc_law_layers.nd rfl (Or.inl rfl)) (pgs_cons (pg_name (i := 10) sc_law_layers.nd rfl (Or.inl rfl)) pgs_nil)))) (fun _ _ _ _ _ => pts_nil) (fun _ _ _ _ _ => (pe_c (cal_law_done T) hr (by decide) rfl (pa_cons (pv 9) (pa_cons (pv 10) (pa_cons (pv 7) pa_nil)))))) pa_nil))))))
            pss_nil)))))))))
      (pss_one (ps_ret (pv 2)))))), ?_⟩
    refine (show tSeq (tPar 2 3 (tCons (tLst tNil) (tCons tDNewT tNil))) _ _ _ _ from ?_)
    refine ⟨sz_of (by show 0 ≤ 100000; decide), fun lh hlh0 => fun kn hkn0 => ⟨.ref lh, .ref kn, rfl, ?_⟩⟩
    have hknH : H kn = none := fresh_back (Ex.new hlh0) hkn0
    have lkn : lh ≠ kn := ne_of_none upd_same hkn0
    have e1 : Ex H (L2.upd (L2.upd H lh (.lst [])) kn (.dT [])) := (Ex.new hlh0).trans (Ex.new hkn0)
    have h1lh : (L2.upd (L2.upd H lh (.lst [])) kn (.dT [])) lh = some (.lst []) := Ex.new hkn0 _ _ upd_same
    have h1kn : (L2.upd (L2.upd H lh (.lst [])) kn (.dT [])) kn = some (.dT []) := upd_same
    generalize (L2.upd (L2.upd H lh (.lst [])) kn (.dT [])) = H1 at e1 h1lh h1kn
    refine qp_asg (ep_compSS (Ri := fun o v _ => v = vo o) [some 1, none] St.first (fun o σ2 _ => σ2 = [some (.ref ru), some (.ref wd), some (.ref lh), some (.ref kn), none, none, none, none, some (vo o), none, none]) (it_newL (K := K) (xs := [.int 1, .non]) (el_lst (ea_cons ev_c (ea_cons ev_c ea_nil)) (by show 2 ≤ 100000; decide)) (.cons (fun _ _ => rfl) (.cons (fun _ _ => rfl) .nil))) (fun o x H' _ _ hx Kt kt => by
      subst hx
      exact kt _ rfl rfl) (fun o σ2 H' _ e' h => by
      subst h
      exact ep_one (a := pq) (fun _ _ _ => True) (fun σ3 _ => σ3[8]? = some (some (vo o))) (it_list (K := K) (ev_var rfl) (ex_l (e1.trans e') hR) (.cons (fun _ _ => trivial) .nil)) (fun x H3 _ _ Kt kt => kt _ rfl rfl) fun σ3 H3 e3 h3 => ep_call (sp := spNew K) (ea_cons (ev_var h3) ea_nil) fun H4 e4 Q k E => ⟨o, rfl, k⟩) (by decide)) fun v H2 e2 ⟨la, ls, ev, hla, hls⟩ => ?_
    subst ev
    have hls : Paired (fun x s => isSS s x H2) ls [St.first (some 1), St.first none] := hls
    refine q_while (W := fun m σ' H' => Ex H H' ∧ ∃ la fs ls ss ks kvs u5 u6 u7, σ' = [some (.ref ru), some (.ref wd), some (.ref lh), some (.ref kn), some (.ref la), u5, u6, u7, none, none, none] ∧ LyAt (PathS rows ws) H' lh kn la fs ls ss ks kvs ∧ m = 2 * (1921 - ks.length) + (if ss = [] then 0 else 1) ∧ fs.length + m ≤ 3843 ∧ ss.length ≤ 75000) 3843 ?_ ?_
    · refine ⟨e1.trans e2, la, [], ls, _, [], [], none, none, none, rfl, ⟨e2 _ _ h1lh, by intro f h; (cases h), by intro f h; (cases h), e2 _ _ h1kn, rfl, .nil, hla, hls, ?_⟩, rfl, by decide, by decide⟩
      intro s hs
      rcases List.mem_cons.mp hs with rfl | hs
      · exact ⟨_, Path.start (rs := [rows]) (v := some 1) (.inl rfl)⟩
      · obtain rfl := List.mem_singleton.mp hs
        exact ⟨_, Path.start (rs := [rows]) (v := none) (.inr rfl)⟩
    · rintro m σ' H3 ⟨e3, la, fs, ls, ss, ks, kvs, u5, u6, u7, rfl, L, em, fm, lm⟩
      refine ⟨!ss.isEmpty, et_neNil rfl L.la L.ls, fun hb H4 e4 => ?_, fun hb H4 e4 => ?_⟩
      · have hne : ss ≠ [] := by
          rintro rfl
          cases hb
        rw [if_neg hne] at em
        refine ⟨_, fun _ _ h => h, ?_⟩
        have L4 := L.x e4
        have e04 := e3.trans e4
        refine q_asgL (xs := []) (el_lst ea_nil (by show 0 ≤ 100000; decide)) fun fr H5 hfr0 e5 hfr => ?_
        have L5 := L4.x e5
        have e05 := e04.trans e5
        have nfr : ∀ f ∈ fs, f ≠ .ref fr := fun f h => (L4.fs f h).ne hfr0
        have lafr : la ≠ fr := ne_of_none L4.la hfr0
        have lhfr : lh ≠ fr := ne_of_none L4.lh hfr0
        have knfr : kn ≠ fr := ne_of_none L4.kn hfr0
        have frH : H fr = none := fresh_back e04 hfr0
        have lakn : la ≠ kn := fun z => by
          have h1 := L5.la
          have h2 := L5.kn
          rw [z, h2] at h1
          cases h1
        refine q_forLn (j := 6) (ev_var rfl) (SqL.of L5.la) (fun i σ' H' => Ex H H' ∧ ∃ ts gs kvs u6, σ' = [some (.ref ru), some (.ref wd), some (.ref lh), some (.ref kn), some (.ref la), some (.ref fr), u6, u7, none, none, none] ∧ LyAt (PathS rows ws) H' lh kn la fs ls ss (ks ++ ts) kvs ∧ H' fr = some (.lst gs) ∧ Paired (fun x s => isSS s x H') gs ts ∧ ∀ t ∈ ts, PathS rows ws t) (fun H6 e6 => ⟨e05.trans e6, [], [], kvs, u6, rfl, by
          rw [List.append_nil]
          exact L5.x e6, e6 _ _ hfr, .nil, by intro t h; (cases h)⟩) (fun i σ' H' _ ⟨_, ts, gs, kvs, u6, _, L', _⟩ => SqL.of L'.la) ?_ ?_
        · rintro i x σ' H6 hx ⟨e6, ts, gs, kvs, u6, rfl, L6, hgs, hgp, hgt⟩
          obtain ⟨s, hs, hS⟩ := paired_get L6.ls hx
          have hps := L6.ps s (List.mem_of_getElem? hs)
          obtain ⟨a, u, rfl, ha, hsu⟩ := id hS
          have key : ∀ {σ : L2.St} {H' : Hp}, Ex H6 H' → σ[6]? = some (some (.ref a)) → EvP (tCall (spKey K) [] C8.E0 (tCons (tVar 6) tNil)) σ H' (lkP s) := fun e h =>
            ep_call (ea_cons (ev_var h) ea_nil) fun H7 e7 Q k E => ⟨a, u, s, rfl, SqL.of ((e.trans e7) _ _ ha), hsu.x (e.trans e7), k⟩
          have fewk := few_known L6.nd
          rw [List.length_append] at fewk
          have lgs : gs.length = ts.length := Paired.length hgp
          have lkv : kvs.length = ks.length + ts.length := by
            have := congrArg List.length L6.keys
            rwa [List.length_map, List.length_map, List.length_append] at this
          have tst : EvT (tB (tDNotIn (tCall (spKey K) [] C8.E0 (tCons (tVar 6) tNil)) (tVar 3))) [some (.ref ru), some (.ref wd), some (.ref lh), some (.ref kn), some (.ref la), some (.ref fr), some (.ref a), u7, none, none, none] H6 (!decide (lkey s ∈ (ks ++ ts).map lkey)) := fun H7 e7 Q q =>
            (key (Ex.refl _) rfl) H7 e7 _ fun v H8 e8 ⟨b, ev, hb⟩ => by
              subst ev
              refine ⟨.ref kn, rfl, kn, _, rfl, DGet.t ((e7.trans e8) _ _ L6.kn) (k := (lkey s).map Sum.inl) (by rw [← kv_key]; exact hb), _, rfl, ?_⟩
              rw [seen_l L6.keys]
              exact q H8 e8
          refine s_when tst (fun hn H7 e7 => ?_) fun hn H7 e7 => ?_
          · have hnm : lkey s ∉ (ks ++ ts).map lkey := by simpa using hn
            have L7 := L6.x e7
            refine s_dputP (a := kn) (v := .bl true) ev_c (ev_var rfl) (key e7 rfl) fun yv H8 e8 ⟨b, ev, hb⟩ => ?_
            subst ev
            have L8 := L7.x e8
            have big := big_line
            refine ⟨_, DPut.t L8.kn (k := (lkey s).map Sum.inl) (by rw [← kv_key]; exact hb) (by omega), ?_⟩
            have knk : putK kvs ((lkey s).map (Sum.inl : Int → Key)) (V.bl true) = kvs ++ [((lkey s).map Sum.inl, V.bl true)] := putK_new _ (by
              have h1 := seen_l (s := s) L6.keys
              rw [decide_eq_false hnm] at h1
              cases hq : valV kvs ((lkey s).map (Sum.inl : Int → Key)) with
              | none => rfl
              | some _ =>
                rw [hq] at h1
                cases h1)
            rw [knk]
            have e68 := e7.trans e8
            have eM : ExM H8 (L2.upd H8 kn (.dT (kvs ++ [((lkey s).map Sum.inl, V.bl true)]))) := mut_d L8.kn
            have hgs8 : (L2.upd H8 kn (.dT (kvs ++ [((lkey s).map Sum.inl, V.bl true)]))) fr = some (.lst gs) := by
              rw [upd_ne (Ne.symm knfr)]
              exact e68 _ _ hgs
            refine s_app (l := fr) hgs8 (ev_var rfl) (ev_var rfl) (by omega) fun H9 e9 => ?_
            have hgp9 := pair_SS (((mOf e68).trans eM).trans (mOf e9)) hgp
            have eM2 : ExM H9 (L2.upd H9 fr (.lst (gs ++ [.ref a]))) := mut_l (e9 _ _ hgs8) hgp9
            have eA : ExM H6 (L2.upd H9 fr (.lst (gs ++ [.ref a]))) := (((mOf e68).trans eM).trans (mOf e9)).trans eM2
            have at9 : ∀ {b : Addr} {o : HO}, b ≠ kn → b ≠ fr → H6 b = some o → (L2.upd H9 fr (.lst (gs ++ [.ref a]))) b = some o := fun n1 n2 h => by
              rw [upd_ne n2]
              refine e9 _ _ ?_
              rw [upd_ne n1]
              exact e68 _ _ h
            have xx : Ex H (L2.upd H9 fr (.lst (gs ++ [.ref a]))) := Ex.mut ((Ex.mut (e6.trans e68) hknH).trans e9) frH
            refine ⟨xx, ts ++ [s], gs ++ [.ref a], kvs ++ [((lkey s).map Sum.inl, V.bl true)], _, rfl, ?_, upd_same, paired_snoc (F := fun x s => isSS s x _) (hS.m eA) (pair_SS eA hgp), ?_⟩
            · rw [← List.append_assoc]
              refine ⟨at9 lkn lhfr L6.lh, fun f hf => ?_, L6.nl, ?_, ?_, ?_, at9 lakn lafr L6.la, pair_SS eA L6.ls, L6.ps⟩
              · exact ((((L6.fs f hf).x e68).upd (((L6.fs f hf).x e68).neD L8.kn) eM).x e9).upd (nfr f hf) eM2
              · rw [upd_ne knfr]
                exact e9 _ _ upd_same
              · rw [List.map_append, List.map_append, L6.keys]
                rfl
              · rw [List.map_append]
                refine List.nodup_append.mpr ⟨L6.nd, by simp, fun a ha b hb e => ?_⟩
                obtain rfl := List.mem_singleton.mp hb
                subst e
                exact hnm ha
            · intro t ht
              rcases List.mem_append.mp ht with h | h
              · exact hgt t h
              · obtain rfl := List.mem_singleton.mp h
                exact hps
          · exact ⟨e6.trans e7, ts, gs, kvs, _, rfl, L6.x e7, e7 _ _ hgs, pair_SS (mOf e7) hgp, hgt⟩
        · rintro σ' H6 ⟨e6, ts, gs, kvs, u6, rfl, L6, hgs, hgp, hgt⟩
          have fewk := few_known L6.nd
          rw [List.length_append] at fewk
          have lgs : gs.length = ts.length := Paired.length hgp
          refine q_app (l := lh) L6.lh (ev_var rfl) (ev_var rfl) (by omega) fun H7 e7 => ?_
          have L7 := L6.x e7
          have eM : ExM H7 (L2.upd H7 lh (.lst (fs ++ [.ref fr]))) := mut_h L7.fs L7.lh
          have e07 : Ex H (L2.upd H7 lh (.lst (fs ++ [.ref fr]))) := Ex.mut (e6.trans e7) hlh0
          have hgp7 := pair_SS ((mOf e7).trans eM) hgp
          have fs7 : ∀ f ∈ fs ++ [.ref fr], frP (PathS rows ws) f (L2.upd H7 lh (.lst (fs ++ [.ref fr]))) := fun f hf => by
            rcases List.mem_append.mp hf with h | h
            · exact (L7.fs f h).upd (L6.nl f h) eM
            · obtain rfl := List.mem_singleton.mp h
              exact ⟨fr, ts, gs, rfl, by rw [upd_ne (Ne.symm lhfr)]; exact e7 _ _ hgs, hgp7, hgt⟩
          have nl7 : ∀ f ∈ fs ++ [V.ref fr], f ≠ .ref lh := fun f hf => by
            rcases List.mem_append.mp hf with h | h
            · exact L6.nl f h
            · obtain rfl := List.mem_singleton.mp h
              intro z
              cases z
              exact lhfr rfl
          have kn7 : (L2.upd H7 lh (.lst (fs ++ [.ref fr]))) kn = some (.dT kvs) := by
            rw [upd_ne (Ne.symm lkn)]
            exact L7.kn
          have fr7 : (L2.upd H7 lh (.lst (fs ++ [.ref fr]))) fr = some (.lst gs) := by
            rw [upd_ne (Ne.symm lhfr)]
            exact e7 _ _ hgs
          have lh7 : (L2.upd H7 lh (.lst (fs ++ [.ref fr]))) lh = some (.lst (fs ++ [.ref fr])) := upd_same
          generalize (L2.upd H7 lh (.lst (fs ++ [.ref fr]))) = H8 at eM e07 hgp7 fs7 kn7 fr7 lh7
          refine q_asgL (xs := []) (el_lst ea_nil (by show 0 ≤ 100000; decide)) fun lb H9 hlb0 e9 hlb => ?_
          have lbH : H lb = none := fresh_back e07 hlb0
          have nlb : ∀ f ∈ fs ++ [V.ref fr], f ≠ .ref lb := fun f h => (fs7 f h).ne hlb0
          have lhlb : lh ≠ lb := ne_of_none lh7 hlb0
          have knlb : kn ≠ lb := ne_of_none kn7 hlb0
          have frlb : fr ≠ lb := ne_of_none fr7 hlb0
          have keep : ∀ {H' Hb : Hp} {zs : List V} {us us' : List St} {v : V} (e : Ex H' Hb), LyAt (PathS rows ws) H' lh kn lb (fs ++ [.ref fr]) zs us (ks ++ ts) kvs → (∀ t ∈ us', PathS rows ws t) → Paired (fun x s => isSS s x (L2.upd Hb lb (.lst (zs ++ [v])))) (zs ++ [v]) us' → LyAt (PathS rows ws) (L2.upd Hb lb (.lst (zs ++ [v]))) lh kn lb (fs ++ [.ref fr]) (zs ++ [v]) us' (ks ++ ts) kvs := fun {H' Hb zs us us' v} e L h1 h2 => by
            have Ly := L.x e
            have eM : ExM Hb (L2.upd Hb lb (.lst (zs ++ [v]))) := mut_l Ly.la Ly.ls
            refine ⟨by rw [upd_ne lhlb]; exact Ly.lh, fun f hf => (Ly.fs f hf).upd (nlb f hf) eM, Ly.nl, by rw [upd_ne knlb]; exact Ly.kn, Ly.keys, Ly.nd, upd_same, h2, h1⟩
          refine s_forLn (j := 6) (ev_var rfl) (SqL.of (e9 _ _ fr7)) (fun i σ' H' => Ex H H' ∧ ∃ ls ss u6 u7, σ' = [some (.ref ru), some (.ref wd), some (.ref lh), some (.ref kn), some (.ref lb), some (.ref fr), u6, u7, none, none, none] ∧ LyAt (PathS rows ws) H' lh kn lb (fs ++ [.ref fr]) ls ss (ks ++ ts) kvs ∧ H' fr = some (.lst gs) ∧ Paired (fun x s => isSS s x H') gs ts ∧ ss.length ≤ 37 * i) (fun H10 e10 => ⟨(e07.trans e9).trans e10, [], [], u6, u7, rfl, ⟨e10 _ _ (e9 _ _ lh7), fun f h => (fs7 f h).x (e9.trans e10), nl7, e10 _ _ (e9 _ _ kn7), L6.keys, L6.nd, e10 _ _ hlb, .nil, by intro s h; (cases h)⟩, e10 _ _ (e9 _ _ fr7), pair_SS (mOf (e9.trans e10)) hgp7, Nat.zero_le _⟩) (fun i σ' H' _ ⟨_, ls, ss, u6, u7, _, _, h, _⟩ => SqL.of h) ?_ ?_
          · rintro i x σ' H10 hx ⟨e10, ls, ss, u6, u7, rfl, L10, hfr10, hgp10, len10⟩
            obtain ⟨s, hs, hS⟩ := paired_get hgp10 hx
            have hps := hgt s (List.mem_of_getElem? hs)
            have hi : i < 1920 := by
              have := (List.getElem?_eq_some_iff.mp hs).1
              omega
            obtain ⟨a, u, rfl, ha, hsu⟩ := id hS
            obtain ⟨sa, wv, rfl, hsa, _⟩ := id hsu
            refine s_when (b := true) (et_is (et_eqNilD (f := testD) (l := ([s].filter fun _ => false).map fun _ => Test.mine) (sh_list lay_test _) (ep_comp (R := fun t => isD K (testD t)) [s] (fun _ => false) (fun _ => Test.mine) (fun _ v _ => v = .ref sa) (fun _ σ2 _ => σ2[10]? = some (some (.ref sa)) ∧ σ2[6]? = some (some (.ref a))) (it_list (K := K) (ev_var rfl) (SqL.of ha) (.cons (fun _ _ => rfl) .nil)) (fun t v H' _ _ hv Kt kt => by
              subst hv
              exact kt _ rfl ⟨rfl, rfl⟩) (fun t σ2 H' _ e' h => et_is (et_test (ev_nev (a := s.here) (b := s.here) (ev_at (i := 1) (ev_var h.1) (SqL.of (e' _ _ hsa)) rfl) (ev_at (i := 1) (ev_at (i := 0) (ev_var h.2) (SqL.of (e' _ _ ha)) rfl) (SqL.of (e' _ _ hsa)) rfl))) (by simp)) (fun t σ2 H' _ _ _ hf => by cases hf) (fun t => stb_isD K (noL_strs _)) (by show 1 ≤ 100000; decide))) rfl) (fun _ H11 e11 => ?_) fun h => by cases h
            refine s_forN (R := evsR K (carsL ++ evsL s ws)) (en_choices (e11 _ _ ha) (hsu.x e11) (ex_l (e10.trans e11) hW) h5 (ev_var rfl) (ev_var rfl)) fun p es H12 hp0 e12 hp12 hes => ?_
            have e112 := e11.trans e12
            have L12 := L10.x e112
            have plb : p ≠ lb := Ne.symm (ne_of_none (L10.x e11).la hp0)
            have les : es.length ≤ 37 := by
              rw [Paired.length hes, List.length_append]
              have := evsL_len s ws
              show 2 + _ ≤ 37
              omega
            refine s_forLn (j := 7) ev_c (SqL.of hp12) (fun q σ' H' => Ex H H' ∧ ∃ ls ss u7, σ' = [some (.ref ru), some (.ref wd), some (.ref lh), some (.ref kn), some (.ref lb), some (.ref fr), some (.ref a), u7, none, none, none] ∧ LyAt (PathS rows ws) H' lh kn lb (fs ++ [.ref fr]) ls ss (ks ++ ts) kvs ∧ H' fr = some (.lst gs) ∧ Paired (fun x s => isSS s x H') gs ts ∧ ss.length ≤ 37 * i + q ∧ H' p = some (.lst es) ∧ evsR K (carsL ++ evsL s ws) es H' ∧ isSS s (.ref a) H' ∧ H' a = some (.lst [.ref sa]) ∧ isS s (.ref sa) H') (fun H13 e13 => ⟨((e10.trans e112).trans e13), ls, ss, u7, rfl, L12.x e13, (e112.trans e13) _ _ hfr10, pair_SS (mOf (e112.trans e13)) hgp10, by omega, e13 _ _ hp12, pair_evs (tOf e13) hes, hS.x (e112.trans e13), (e112.trans e13) _ _ ha, hsu.x (e112.trans e13)⟩) (fun q σ' H' _ ⟨_, _, _, _, _, _, _, _, _, h, _⟩ => SqL.of h) ?_ ?_
            · rintro q ev σ' H13 hev ⟨e13, ls, ss, u7, rfl, L13, hfr13, hgp13, len13, hp13, hes13, hSS13, ha13, hS13⟩
              obtain ⟨e, he, hE⟩ := paired_get hes13 hev
              have hE : Dp K H13 ev (evD e) := hE
              obtain ⟨inw, eok⟩ := evs_inW (List.mem_of_getElem? he)
              have hq : q < 37 := by
                have := (List.getElem?_eq_some_iff.mp hev).1
                omega
              have lls : ls.length = ss.length := Paired.length L13.ls
              refine s_appP (l := lb) (R := isSS (happened s rows e)) L13.la (ev_var rfl) (ep_one (a := ()) (fun _ x H1 => ∃ t y z, x = .ref t ∧ H1 t = some (.tup [y, z]) ∧ Dp K H1 y (ptD n rows) ∧ isS s z H1) (fun σ2 H1 => ∃ y z, σ2[9]? = some (some y) ∧ σ2[10]? = some (some z) ∧ σ2[7]? = some (some ev) ∧ Dp K H1 y (ptD n rows) ∧ isS s z H1) (it_zip2 (Ra := fun _ y H1 => Dp K H1 y (ptD n rows)) (Rb := fun _ z H1 => isS s z H1) (ea_cons (ev_var rfl) (ea_cons (ev_var rfl) ea_nil)) (ex_l e13 hR) (SqL.of ha13) (.cons (fun H1 e1 => dpX (e13.trans e1) _ _ hP) .nil) (.cons (fun H1 e1 => hS13.x e1) .nil)) (fun x H1 e1 hx Kt kt => by
                obtain ⟨t, y, z, rfl, ht, hy, hz⟩ := hx
                exact ⟨t, [y, z], rfl, SqT.of ht, rfl, y, [z], rfl, z, [], rfl, rfl, kt _ rfl ⟨y, z, rfl, rfl, rfl, hy, hz⟩⟩) fun σ2 H1 e1 ⟨y, z, h9, h10, h7, hy, hz⟩ => ep_call (sp := spLDone K) (ea_cons (ev_var h9) (ea_cons (ev_var h10) (ea_cons (ev_var h7) ea_nil))) fun H2 e2 Q k E => ⟨y, n, rows, z, s, ev, e, rfl, dpX e2 _ _ hy, ok, hz.x e2, dpX (e1.trans e2) _ _ hE, eok, k⟩) (by omega) fun v H14 e14 hv => ?_
              have L14 := L13.x e14
              have eM : ExM H14 (L2.upd H14 lb (.lst (ls ++ [v]))) := mut_l L14.la L14.ls
              have eA := (mOf e14).trans eM
              refine ⟨Ex.mut (e13.trans e14) lbH, ls ++ [v], ss ++ [happened s rows e], _, rfl, keep e14 L13 ?_ (paired_snoc (F := fun x s => isSS s x _) (hv.m eM) (pair_SS eA L13.ls)), by rw [upd_ne frlb]; exact e14 _ _ hfr13, pair_SS eA hgp13, by rw [List.length_append]; show _ + 1 ≤ _; omega, by rw [upd_ne plb]; exact e14 _ _ hp13, pair_evs eA.t hes13, hSS13.m eA, ?_, hS13.l eA.l⟩
              · intro t ht
                rcases List.mem_append.mp ht with h | h
                · exact L13.ps t h
                · obtain rfl := List.mem_singleton.mp h
                  exact hps.step inw
              · obtain ⟨a', u', ea, ha', hu'⟩ := hSS13.m eA
                cases ea
                have h14 := e14 _ _ ha13
                by_cases z : a = lb
                · subst z
                  have h1 := L14.la
                  rw [h14] at h1
                  cases h1
                  obtain ⟨s', _, a1, u1, e1, h1, h2⟩ := paired_get L14.ls (i := 0) (x := .ref sa) rfl
                  cases e1
                  obtain ⟨c, w', e2, h3, _⟩ := hS13.x e14
                  cases e2
                  rw [h1] at h3
                  cases h3
                · rw [upd_ne z]
                  exact h14
            · rintro σ' H13 ⟨e13, ls, ss, u7, rfl, L13, hfr13, hgp13, len13, _⟩
              exact ⟨e13, ls, ss, _, _, rfl, L13, hfr13, hgp13, by omega⟩
          · rintro σ' H10 ⟨e10, ls', ss', u6, u7, rfl, L10, hfr10, hgp10, len10⟩
            have lts := few_known L10.nd
            rw [List.length_append] at lts
            refine ⟨2 * (1921 - (ks ++ ts).length) + (if ss' = [] then 0 else 1), ?_, e10, lb, fs ++ [.ref fr], ls', ss', ks ++ ts, kvs, _, _, _, rfl, L10, rfl, ?_, by omega⟩
            · rw [List.length_append]
              by_cases z : ss' = []
              · rw [if_pos z]
                omega
              · rw [if_neg z]
                have : 0 < ts.length := by
                  rcases Nat.eq_zero_or_pos ts.length with h | h
                  · rw [lgs, h] at len10
                    exact absurd (List.length_eq_zero_iff.mp (by omega)) z
                  · exact h
                omega
            · rw [List.length_append, List.length_append]
              show fs.length + 1 + _ ≤ 3843
              by_cases z : ss' = []
              · rw [if_pos z]
                omega
              · rw [if_neg z]
                have : 0 < ts.length := by
                  rcases Nat.eq_zero_or_pos ts.length with h | h
                  · rw [lgs, h] at len10
                    exact absurd (List.length_eq_zero_iff.mp (by omega)) z
                  · exact h
                omega
      · have L4 := L.x e4
        exact s_ret (ev_var rfl) fun H5 e5 => k _ H5 ((e3.trans e4).trans e5) ⟨lh, fs, rfl, e5 _ _ L4.lh, fun f h => (L4.fs f h).x e5⟩
end
end Ci

set_option Elab.async false
set_option linter.all false
set_option maxRecDepth 100000
set_option maxHeartbeats 4000000
/-! _law_faultless. -/
namespace Ci
open PySem PySem.Spec PyProof.Rows L2 Evl
open C8 (Cal Met Mak pe_c pe_mk pe_mt pe_mt0 pe_gc)
section
variable {P : Program} {w : World} {K : PySem.W.Frag} {mg : Str → Option Value} {base : Heap}
section
variable {σ : L2.St} {H : Hp} {ta tb tc tl : TE} {E : XK} {pq v : V} {n : Nts} {rows : List Row} {s : St} {a : Bool} {g : TG} {tu tz : TS} {D : Ends} {b : Addr} {ws : List Word}
theorem ev_lcar1 (hP : Dp K H pq (ptD n rows)) (ok : RwOk rows) (hS : isS s v H) (ha : Ev ta σ H pq) (hb : Ev tb σ H v) (hc : Ev tc σ H (.str (ansS a))) : Ev (tOp (rIxL K) (tCall (spLCar K) [] E (tCons ta (tCons tb (tCons tc tNil)))) (tC (.int 1))) σ H (vo (s.carried rows a).here) := fun H1 e1 Q q =>
  (ep_lcar hP ok hS ha hb hc) H1 e1 _ fun u H2 e2 ⟨p, w, ev, hp, _⟩ => by
    subst ev
    exact (rv_ixL (K := K) (i := 1) (SqL.of hp) rfl) H2 (Ex.refl _) Q fun H3 e3 => q H3 (e2.trans e3)
theorem q_forLay {rows : Rl} (h : EvP tl σ H (layP rows ws)) (hk : ∀ p fs H1, Ex H H1 → H1 p = some (.lst fs) → (∀ f ∈ fs, frP (PathS rows ws) f H1) → tSeq (tFor (iList K (tC (.ref p))) g tu) tz D σ H1) : tSeq (tFor (iList K tl) g tu) tz D σ H :=
  h H (Ex.refl _) _ fun v H1 e ⟨p, fs, ev, hp, hf⟩ => by
    subst ev
    exact hk p fs H1 e hp hf
theorem ep_layers (hP : Dp K H pq (ptD n rows)) (ok : RwOk rows) (hB : SqL K H b (wsV ws)) (h5 : ws.length ≤ 5) (ha : Ev ta σ H pq) (hb : Ev tb σ H (.ref b)) : EvP (tCall (spLayers K) [] E (tCons (tLst (tCons ta tNil)) (tCons tb tNil))) σ H (layP rows ws) :=
  ep_callA (eas_cons (ep_Lx (el_lst (vs := [pq]) (ea_cons ha ea_nil) (by show 1 ≤ 100000; decide))) (stb_isL _) (eas_v hb eas_nil)) fun vs H1 e ⟨u, r, h1, ⟨p, h2, h3⟩, r2, h4, h5'⟩ => by
    subst h1 h2 h4 h5'
    exact fun H2 e2 Q k E => ⟨p, b, pq, n, rows, ws, rfl, SqL.of (e2 _ _ h3), dpX (e.trans e2) _ _ hP, ok, ex_l (e.trans e2) hB, h5, k⟩
end
def spFaultless (K : PySem.W.Frag) : Sp := fun vs H Q _ => ∃ pq n rows y wd ws, vs = [pq, .str (wayS y), .ref wd] ∧ Dp K H pq (ptD n rows) ∧ RwOk rows ∧ SqL K H wd (wsV ws) ∧ ws.length ≤ 5 ∧ (∀ f, ¬ Faulty rows ws y f) ∧ RetV (.bl true) H Q
theorem cal_law_faultless (T : Txt K mg) : Cal P w K mg base 7 "_law_faultless" (spFaultless K) [] := by
  obtain ⟨fd, F⟩ := T.f_law_faultless
  refine calD F T.g_law_faultless (F.bindsN fun _ _ _ _ _ _ us hl => match us, hl with | [_, _, _], _ => rfl) sc_law_faultless (fun vs H Q E h => ?_) (fun cdv A outer s H vs Q E hr h => ?_)
  · obtain ⟨pq, n, rows, y, wd, ws, rfl, _⟩ := h
    rfl
  · obtain ⟨pq, n, rows, y, wd, ws, rfl, hP, ok, hW, h5, right, k⟩ := h
    refine ⟨_, (pss_cons (ps_for PassesOwn.never rfl (pi_list (pe_c (cal_law_layers T) hr (by decide) rfl (pa_cons (pe_lst (pa_cons (pv 0) pa_nil)) (pa_cons (pv 2) pa_nil)))) (pg_name (i := 3) sc_law_faultless.nd rfl (Or.inl rfl))
        (pss_one (ps_for PassesOwn.never rfl (pi_list (pv 3)) (pg_name (i := 4) sc_law_faultless.nd rfl (Or.inl rfl))
          (pss_one (ps_for PassesOwn.never rfl (pi_list (pe_lst (pa_cons pe_str (pa_cons pe_str pa_nil)))) (pg_name (i := 5) sc_law_faultless.nd rfl (Or.inl rfl))
            (pss_one (ps_if (ptc op_ne (pix (kIxL K) (pe_c (cal_law_carried T) hr (by decide) rfl (pa_cons (pv 0) (pa_cons (pix (kIxL K) (pv 4) pe_int) (pa_cons (pv 5) pa_nil)))) pe_int) (pix (kIxT K) (pe_c (cal_law_due T) hr (by decide) rfl (pa_cons (pix (kIxL K) (pv 4) pe_int) (pa_cons (pv 1) pa_nil))) pe_int))
              (pss_one (ps_ret pe_bl))
              pss_nil)))))))
      (pss_one (ps_ret pe_bl))), ?_⟩
    refine q_forLay (ep_layers hP ok hW h5 (ev_var rfl) (ev_var rfl)) fun p fs H1 e1 hp hf => ?_
    refine q_forLn (j := 3) ev_c (SqL.of hp) (fun i σ' H' => Ex H1 H' ∧ ∃ u3 u4 u5, σ' = [some pq, some (.str (wayS y)), some (.ref wd), u3, u4, u5]) (fun H2 e2 => ⟨e2, none, none, none, rfl⟩) (fun i σ' H' _ h => SqL.of (h.1 _ _ hp)) ?_ ?_
    · rintro i f σ' H2 hx ⟨e2, u3, u4, u5, rfl⟩
      obtain ⟨fr, ss, zs, rfl, hfr, hss, hps⟩ := (hf f (List.mem_of_getElem? hx)).x e2
      refine s_forLn (j := 4) (ev_var rfl) (SqL.of hfr) (fun m σ' H' => Ex H2 H' ∧ ∃ u4 u5, σ' = [some pq, some (.str (wayS y)), some (.ref wd), some (.ref fr), u4, u5]) (fun H3 e3 => ⟨e3, u4, u5, rfl⟩) (fun m σ' H' _ h => SqL.of (h.1 _ _ hfr)) ?_ ?_
      · rintro m x σ' H3 hx2 ⟨e3, u4, u5, rfl⟩
        obtain ⟨s, hs, hS⟩ := paired_get hss hx2
        obtain ⟨kk, path⟩ := hps s (List.mem_of_getElem? hs)
        obtain ⟨a, u, rfl, ha, hu⟩ := hS.x e3
        refine s_forNL (xs := [.str "yes", .str "no"]) (el_lst (ea_cons ev_c (ea_cons ev_c ea_nil)) (by show 2 ≤ 100000; decide)) (fun p j σ' H' => Ex H3 H' ∧ H' p = some (.lst [.str "yes", .str "no"]) ∧ ∃ u5, σ' = [some pq, some (.str (wayS y)), some (.ref wd), some (.ref fr), some (.ref a), u5]) (fun p H4 _ e4 h4 => ⟨e4, h4, u5, rfl⟩) (fun p j σ' H' _ h => SqL.of h.2.1) ?_ ?_
        · rintro p j z σ' H4 hz ⟨e4, h4, u5, rfl⟩
          obtain ⟨an, rfl⟩ : ∃ an, z = V.str (ansS an) := by
            match j, hz with
            | 0, hz =>
              cases hz
              exact ⟨true, rfl⟩
            | 1, hz =>
              cases hz
              exact ⟨false, rfl⟩
            | _ + 2, hz => cases hz
          have e04 := ((e1.trans e2).trans e3).trans e4
          have st : ∀ {σ : L2.St}, σ[4]? = some (some (.ref a)) → Ev (tOp (rIxL K) (tVar 4) (tC (.int 0))) σ H4 u := fun h => ev_at (i := 0) (ev_var h) (SqL.of (e4 _ _ ha)) rfl
          refine s_when (b := false) (et_is (et_test (ev_nev (ev_lcar1 (dpX e04 _ _ hP) ok (hu.x e4) (ev_var rfl) (st rfl) (ev_var rfl)) (ev_ldue (hu.x e4).dp (st rfl) (ev_var rfl)))) ?_) (fun h => by cases h) fun _ H5 e5 => ⟨e4.trans e5, e5 _ _ h4, _, rfl⟩
          rw [due_of right path an, decide_eq_true rfl]
          rfl
        · rintro p σ' H4 ⟨e4, _, u5, rfl⟩
          exact ⟨e3.trans e4, _, _, rfl⟩
      · rintro σ' H3 ⟨e3, u4, u5, rfl⟩
        exact ⟨e2.trans e3, _, _, _, rfl⟩
    · rintro σ' H2 ⟨e2, u3, u4, u5, rfl⟩
      exact s_ret ev_c fun H3 e3 => k H3 ((e1.trans e2).trans e3)
end
end Ci

set_option Elab.async false
set_option linter.all false
set_option maxRecDepth 100000
set_option maxHeartbeats 4000000
/-! _law_alike: of strings, of tuples and lists of what is alike. -/
namespace Ci
open PySem PySem.Spec PyProof.Rows L2 Evl
open C8 (Cal Met Mak pe_c pe_mk pe_mt pe_mt0 pe_gc)
section
variable {X : Cx}
theorem kIx (K : PySem.W.Frag) (hK : X.K = K := by rfl) : IxR X (rIx K) := by
  subst hK
  exact ix_seq
theorem kIsiT (K : PySem.W.Frag) (hK : X.K = K := by rfl) : CallR X (.builtin "isinstance") (rIsiT K) := by
  subst hK
  exact call_isiT
end
section
variable {K : PySem.W.Frag} {σ : L2.St} {H : Hp} {ta tb te : TE} {x y v : V} {a : Addr} {xs ys : List V}
theorem ev_isi {t n : String} {b : Bool} (ha : Ev ta σ H x) (hb : Ev tb σ H (.ty n)) (hx : ∀ H1, Ex H H1 → TyX K H1 x (.type t)) (hk : kitB t n = some b) : Ev (tCB (rIsi K) (tCons ta (tCons tb tNil))) σ H (.bl b) := fun H1 e1 Q q =>
  ha H1 e1 _ fun H2 e2 => hb H2 (e1.trans e2) _ fun H3 e3 => ⟨_, _, _, _, b, rfl, .ty n, hx _ ((e1.trans e2).trans e3), kit_ty hk, q H3 (e2.trans e3)⟩
theorem ev_isiT {t n m : String} {b c : Bool} (ha : Ev ta σ H x) (hx : ∀ H1, Ex H H1 → TyX K H1 x (.type t)) (hk : kitB t n = some b) (hk2 : kitB t m = some c) : Ev (tCB (rIsiT K) (tCons ta (tCons (tTup (tCons (tC (.ty n)) (tCons (tC (.ty m)) tNil))) tNil))) σ H (.bl (b || c)) := fun H1 e1 Q q =>
  ha H1 e1 _ fun H2 e2 => ⟨sz_of (by show 2 ≤ 100000; decide), fun p hp => by
    refine ⟨x, p, [.ty n, .ty m], _, [.type n, .type m], b || c, rfl, upd_same, .cons (.ty n) (.cons (.ty m) .nil), hx _ ((e1.trans e2).trans (Ex.new hp)), ?_, q _ (e2.trans (Ex.new hp))⟩
    cases b with
    | true => exact kitAny_cons (kit_ty hk) (fun h => by cases h) fun _ => rfl
    | false => exact kitAny_cons (kit_ty hk) (fun _ => by
        cases c with
        | true => exact kitAny_cons (kit_ty hk2) (fun h => by cases h) fun _ => rfl
        | false => exact kitAny_cons (kit_ty hk2) (fun _ => rfl) fun h => by cases h) fun h => by cases h⟩
theorem ev_neb {b c : Bool} (ha : Ev ta σ H (.bl b)) (hb : Ev tb σ H (.bl c)) : Ev (tOp rNe ta tb) σ H (.bl (b != c)) := by
  refine ev_is (ev_op ha hb (rv_ne (show scal (.bl b) (.bl c) = true from rfl))) (congrArg V.bl ?_)
  cases b <;> cases c <;> decide
theorem ev_neiC {i j : Int} (ha : Ev ta σ H (.int i)) (hb : Ev tb σ H (.int j)) {c : Bool} (hc : (!decide (i = j)) = c) : Ev (tOp rNe ta tb) σ H (.bl c) := by
  subst hc
  refine ev_is (ev_op ha hb (rv_ne (show scal (.int i) (.int j) = true from rfl))) (congrArg V.bl ?_)
  rw [dec_int, Bool.beq_eq_decide_eq]
theorem ev_eqE (h : EvP te σ H (isL [])) : Ev (tOp (rEqD K) te (tLst tNil)) σ H (.bl true) := fun H1 e1 Q q =>
  h H1 e1 _ fun v H2 e2 ⟨p, ev, hp⟩ => ⟨sz_of (by decide), fun r hr => by
    subst ev
    have en : Ex H2 (L2.upd H2 r (.lst [])) := Ex.new hr
    exact ⟨.list [], .list [], .lst (SqL.of (en _ _ hp)) .nil, .lst (SqL.of upd_same) .nil, by decide +kernel, by decide +kernel, q _ (e2.trans en)⟩⟩
/-- a tuple or a plain list -/
def SqA (K : PySem.W.Frag) (H : Hp) (v : V) (xs : List V) : Bool → Prop
  | false => ∃ a, v = .ref a ∧ SqT K H a xs
  | true => ∃ a, v = .ref a ∧ H a = some (.lst xs)
theorem sqA_x {b : Bool} {H' : Hp} (h : SqA K H v xs b) (e : Ex H H') : SqA K H' v xs b := by
  cases b with
  | false =>
    obtain ⟨a, h1, h2⟩ := h
    exact ⟨a, h1, ex_t e h2⟩
  | true =>
    obtain ⟨a, h1, h2⟩ := h
    exact ⟨a, h1, e _ _ h2⟩
def sqN : Bool → String
  | false => "tuple"
  | true => "list"
theorem sqA_ty {b : Bool} (h : SqA K H v xs b) : TyX K H v (.type (sqN b)) := by
  cases b with
  | false =>
    obtain ⟨a, rfl, h2⟩ := h
    exact tyx_tup h2
  | true =>
    obtain ⟨a, rfl, h2⟩ := h
    exact .base (.lst h2)
theorem ev_lenA {b : Bool} (h : SqA K H v xs b) (ha : Ev ta σ H v) : Ev (tCB (rLn K) (tCons ta tNil)) σ H (.int (xs.length : Int)) := by
  cases b with
  | false =>
    obtain ⟨a, rfl, h2⟩ := h
    exact ev_lenT ha h2
  | true =>
    obtain ⟨a, rfl, h2⟩ := h
    exact fun H1 e Q q => ha H1 e _ fun H2 e2 => ⟨a, xs, rfl, Or.inl (SqL.of ((e.trans e2) _ _ h2)), q H2 e2⟩
theorem ev_ixA {b : Bool} {i : Nat} (h : SqA K H v xs b) (ha : Ev ta σ H v) (hb : Ev tb σ H (.int (i : Nat))) (hx : xs[i]? = some x) : Ev (tOp (rIx K) ta tb) σ H x := by
  cases b with
  | false =>
    obtain ⟨a, rfl, h2⟩ := h
    exact ev_op ha hb fun H1 e Q q => .inr (.inl ((rv_ixT h2 (atI_nat hx)) H1 e Q q))
  | true =>
    obtain ⟨a, rfl, h2⟩ := h
    exact ev_op ha hb fun H1 e Q q => .inl ((rv_ixL (SqL.of h2) (atI_nat hx)) H1 e Q q)
end
section
variable {P : Program} {w : World} {K : PySem.W.Frag} {mg : Str → Option Value} {base : Heap}
theorem alike_0 (T : Txt K mg) : Cal P w K mg base 1 "_law_alike" (fun _ _ _ _ => False) [] := by
  obtain ⟨fd, F⟩ := T.f_law_alike
  exact calD F T.g_law_alike (F.bindsN fun _ _ _ _ _ _ us hl => match us, hl with | [_, _], _ => rfl) sc_law_alike (fun vs H Q E h => h.elim) (fun cdv A outer s H vs Q E hr h => h.elim)
def spAlS : Sp := fun vs H Q _ => ∃ a : Str, vs = [.str a, .str a] ∧ RetV (.bl true) H Q
theorem alike_str (T : Txt K mg) : Cal P w K mg base 2 "_law_alike" spAlS [] := by
  have c := alike_0 (P := P) (w := w) (base := base) T
  have cal_law_alike : Txt K mg → Cal P w K mg base 1 "_law_alike" (fun _ _ _ _ => False) [] := fun _ => c
  obtain ⟨fd, F⟩ := T.f_law_alike
  refine calD F T.g_law_alike (F.bindsN fun _ _ _ _ _ _ us hl => match us, hl with | [_, _], _ => rfl) sc_law_alike (fun vs H Q E h => ?_) (fun cdv A outer s H vs Q E hr h => ?_)
  · obtain ⟨a, rfl, _⟩ := h
    rfl
  · obtain ⟨a, rfl, k⟩ := h
    refine ⟨_, (pss_cons (ps_if (pt_val (pe_callB (kIsi K) (by rfl) T.z_isinstance (by decide +kernel) (pa_cons (pv 1) (pa_cons (kTy "dict" rfl T.z_dict (by decide +kernel)) pa_nil))))
        (pss_one (ps_ret (pe_and (pe_callB (kIsi K) (by rfl) T.z_isinstance (by decide +kernel) (pa_cons (pv 0) (pa_cons (kTy "dict" rfl T.z_dict (by decide +kernel)) pa_nil))) (pe_and (pe_c (cal_law_alike T) hr (by decide) rfl (pa_cons (pe_callTy (kListOf K) (by rfl) T.z_list (by decide +kernel) (pa_cons (pv 0) pa_nil)) (pa_cons (pe_callTy (kListOf K) (by rfl) T.z_list (by decide +kernel) (pa_cons (pv 1) pa_nil)) pa_nil))) (pe_one (pec op_eq (pv 0) (pv 1)))))))
        pss_nil)
      (pss_cons (ps_if (pt_val (pe_callB (kIsiT K) (by rfl) T.z_isinstance (by decide +kernel) (pa_cons (pv 1) (pa_cons (pe_tup (pa_cons (kTy "tuple" rfl T.z_tuple (by decide +kernel)) (pa_cons (kTy "list" rfl T.z_list (by decide +kernel)) pa_nil))) pa_nil))))
        (pss_cons (ps_if (PW.pt (pw_or (pt_not (pt_val (pe_callB (kIsiT K) (by rfl) T.z_isinstance (by decide +kernel) (pa_cons (pv 0) (pa_cons (pe_tup (pa_cons (kTy "tuple" rfl T.z_tuple (by decide +kernel)) (pa_cons (kTy "list" rfl T.z_list (by decide +kernel)) pa_nil))) pa_nil))))) (pw_or1 (ptc op_ne (pe_callB (kIsi K) (by rfl) T.z_isinstance (by decide +kernel) (pa_cons (pv 0) (pa_cons (kTy "list" rfl T.z_list (by decide +kernel)) pa_nil))) (pe_callB (kIsi K) (by rfl) T.z_isinstance (by decide +kernel) (pa_cons (pv 1) (pa_cons (kTy "list" rfl T.z_list (by decide +kernel)) pa_nil)))))))
          (pss_one (ps_ret pe_bl))
          pss_nil)
        (pss_cons (ps_if (ptc op_ne (pe_callB (kLen K) (by rfl) T.z_len PySem.boot_len (pa_cons (pv 0) pa_nil)) (pe_callB (kLen K) (by rfl) T.z_len PySem.boot_len (pa_cons (pv 1) pa_nil)))
          (pss_one (ps_ret pe_bl))
          pss_nil)
        (pss_one (ps_ret (pec (kEqD K hr) (pe_lcT (own := [("_law_k", 2)]) (by rfl) sc_law_alike.nd (pi_range1 (by rfl) T.z_range (pa_cons (pe_callB (kLen K) (by rfl) T.z_len PySem.boot_len (pa_cons (pv 1) pa_nil)) pa_nil)) (blkOk_by (own := [("_law_k", 2)]) (N := n_law_alike) (sc := defScope s_law_alike) (by decide +kernel)) (fun _ _ _ _ _ => (pg_name (i := 2) sc_law_alike.nd rfl (Or.inl rfl))) (fun _ _ _ _ _ => (pt_not (pt_val (pe_c (cal_law_alike T) hr (by decide) rfl (pa_cons (pix (kIx K) (pv 0) (pv 2)) (pa_cons (pix (kIx K) (pv 1) (pv 2)) pa_nil)))))) (fun _ _ _ _ _ => (pv 2))) (pe_lst pa_nil))))))
        pss_nil)
      (pss_cons (ps_if (PW.pt (pw_or (ptc op_isN (pv 1) pe_non) (pw_or1 (pt_val (pe_callB (kIsi K) (by rfl) T.z_isinstance (by decide +kernel) (pa_cons (pv 1) (pa_cons (kTy "str" rfl T.z_str (by decide +kernel)) pa_nil)))))))
        (pss_one (ps_ret (pe_and (pec op_eq (pv 0) (pv 1)) (pe_one (pec op_eq (pe_callB (kIsi K) (by rfl) T.z_isinstance (by decide +kernel) (pa_cons (pv 0) (pa_cons (kTy "str" rfl T.z_str (by decide +kernel)) pa_nil))) (pe_callB (kIsi K) (by rfl) T.z_isinstance (by decide +kernel) (pa_cons (pv 1) (pa_cons (kTy "str" rfl T.z_str (by decide +kernel)) pa_nil))))))))
        pss_nil)
      (pss_one (ps_ret (pe_and (pe_callB (kIsi K) (by rfl) T.z_isinstance (by decide +kernel) (pa_cons (pv 0) (pa_cons (kTy "int" rfl T.z_int (by decide +kernel)) pa_nil))) (pe_and (pec op_eq (pe_callB (kIsi K) (by rfl) T.z_isinstance (by decide +kernel) (pa_cons (pv 0) (pa_cons (kTy "bool" rfl T.z_bool (by decide +kernel)) pa_nil))) (pe_callB (kIsi K) (by rfl) T.z_isinstance (by decide +kernel) (pa_cons (pv 1) (pa_cons (kTy "bool" rfl T.z_bool (by decide +kernel)) pa_nil)))) (pe_one (pec op_eq (pv 0) (pv 1)))))))))), ?_⟩
    have ty : ∀ H1 : Hp, TyX K H1 (.str a) (.type "str") := fun _ => .base (.str a)
    have iss : ∀ {i : Nat} {H1 : Hp}, [some (V.str a), some (V.str a), none][i]? = some (some (.str a)) → Ev (tCB (rIsi K) (tCons (tVar i) (tCons (tC (.ty "str")) tNil))) [some (.str a), some (.str a), none] H1 (.bl true) := fun h => ev_isi (ev_var h) ev_c (fun _ _ => ty _) (by decide +kernel)
    refine q_when (b := false) (et_B (ev_isi (ev_var rfl) ev_c (fun _ _ => ty _) (by decide +kernel))) (fun h => by cases h) fun _ H1 e1 => ?_
    refine q_when (b := false) (et_B (ev_isiT (b := false) (c := false) (ev_var rfl) (fun _ _ => ty _) (by decide +kernel) (by decide +kernel))) (fun h => by cases h) fun _ H2 e2 => ?_
    refine q_when (b := true) (et_or (a := false) (b := true) (et_is (et_test (ev_op (ev_var rfl) ev_c rv_isN)) (decide_eq_false fun h => by cases h)) fun _ => et_B (iss rfl)) (fun _ H3 e3 => ?_) fun h => by cases h
    exact s_ret (ev_andV (a := true) (b := true) (ev_eqs (ev_var rfl) (ev_var rfl) (decide_eq_true rfl)) fun _ => ev_eqb (a := true) (b := true) (iss rfl) (iss rfl)) fun H4 e4 => k H4 (((e1.trans e2).trans e3).trans e4)
/-- of tuples or lists, by what is alike within -/
def spAlQ (K : PySem.W.Frag) (spI : Sp) : Sp := fun vs H Q _ => ∃ v u xs ys b, vs = [v, u] ∧ SqA K H v xs b ∧ SqA K H u ys b ∧ xs.length = ys.length ∧ xs.length ≤ 1000 ∧ (∀ (i : Nat) x y, xs[i]? = some x → ys[i]? = some y → SpV spI [x, y] H (.bl true)) ∧ RetV (.bl true) H Q
theorem alike_seq (T : Txt K mg) {k : Nat} {spI : Sp} (c : Cal P w K mg base k "_law_alike" spI []) : Cal P w K mg base (k + 1) "_law_alike" (spAlQ K spI) [] := by
  have cal_law_alike : Txt K mg → Cal P w K mg base k "_law_alike" spI [] := fun _ => c
  obtain ⟨fd, F⟩ := T.f_law_alike
  refine calD F T.g_law_alike (F.bindsN fun _ _ _ _ _ _ us hl => match us, hl with | [_, _], _ => rfl) sc_law_alike (fun vs H Q E h => ?_) (fun cdv A outer s H vs Q E hr h => ?_)
  · obtain ⟨v, u, xs, ys, b, rfl, _⟩ := h
    rfl
  · obtain ⟨v, u, xs, ys, b, rfl, hv, hu, hl, few, hi, k⟩ := h
    refine ⟨_, (pss_cons (ps_if (pt_val (pe_callB (kIsi K) (by rfl) T.z_isinstance (by decide +kernel) (pa_cons (pv 1) (pa_cons (kTy "dict" rfl T.z_dict (by decide +kernel)) pa_nil))))
        (pss_one (ps_ret (pe_and (pe_callB (kIsi K) (by rfl) T.z_isinstance (by decide +kernel) (pa_cons (pv 0) (pa_cons (kTy "dict" rfl T.z_dict (by decide +kernel)) pa_nil))) (pe_and (pe_c (cal_law_alike T) hr (Nat.le_refl _) rfl (pa_cons (pe_callTy (kListOf K) (by rfl) T.z_list (by decide +kernel) (pa_cons (pv 0) pa_nil)) (pa_cons (pe_callTy (kListOf K) (by rfl) T.z_list (by decide +kernel) (pa_cons (pv 1) pa_nil)) pa_nil))) (pe_one (pec op_eq (pv 0) (pv 1)))))))
        pss_nil)
      (pss_cons (ps_if (pt_val (pe_callB (kIsiT K) (by rfl) T.z_isinstance (by decide +kernel) (pa_cons (pv 1) (pa_cons (pe_tup (pa_cons (kTy "tuple" rfl T.z_tuple (by decide +kernel)) (pa_cons (kTy "list" rfl T.z_list (by decide +kernel)) pa_nil))) pa_nil))))
        (pss_cons (ps_if (PW.pt (pw_or (pt_not (pt_val (pe_callB (kIsiT K) (by rfl) T.z_isinstance (by decide +kernel) (pa_cons (pv 0) (pa_cons (pe_tup (pa_cons (kTy "tuple" rfl T.z_tuple (by decide +kernel)) (pa_cons (kTy "list" rfl T.z_list (by decide +kernel)) pa_nil))) pa_nil))))) (pw_or1 (ptc op_ne (pe_callB (kIsi K) (by rfl) T.z_isinstance (by decide +kernel) (pa_cons (pv 0) (pa_cons (kTy "list" rfl T.z_list (by decide +kernel)) pa_nil))) (pe_callB (kIsi K) (by rfl) T.z_isinstance (by decide +kernel) (pa_cons (pv 1) (pa_cons (kTy "list" rfl T.z_list (by decide +kernel)) pa_nil)))))))
          (pss_one (ps_ret pe_bl))
          pss_nil)
        (pss_cons (ps_if (ptc op_ne (pe_callB (kLen K) (by rfl) T.z_len PySem.boot_len (pa_cons (pv 0) pa_nil)) (pe_callB (kLen K) (by rfl) T.z_len PySem.boot_len (pa_cons (pv 1) pa_nil)))
          (pss_one (ps_ret pe_bl))
          pss_nil)
        (pss_one (ps_ret (pec (kEqD K hr) (pe_lcT (own := [("_law_k", 2)]) (by rfl) sc_law_alike.nd (pi_range1 (by rfl) T.z_range (pa_cons (pe_callB (kLen K) (by rfl) T.z_len PySem.boot_len (pa_cons (pv 1) pa_nil)) pa_nil)) (blkOk_by (own := [("_law_k", 2)]) (N := n_law_alike) (sc := defScope s_law_alike) (by decide +kernel)) (fun _ _ _ _ _ => (pg_name (i := 2) sc_law_alike.nd rfl (Or.inl rfl))) (fun _ _ _ _ _ => (pt_not (pt_val (pe_c (cal_law_alike T) hr (Nat.le_refl _) rfl (pa_cons (pix (kIx K) (pv 0) (pv 2)) (pa_cons (pix (kIx K) (pv 1) (pv 2)) pa_nil)))))) (fun _ _ _ _ _ => (pv 2))) (pe_lst pa_nil))))))
        pss_nil)
      (pss_cons (ps_if (PW.pt (pw_or (ptc op_isN (pv 1) pe_non) (pw_or1 (pt_val (pe_callB (kIsi K) (by rfl) T.z_isinstance (by decide +kernel) (pa_cons (pv 1) (pa_cons (kTy "str" rfl T.z_str (by decide +kernel)) pa_nil)))))))
        (pss_one (ps_ret (pe_and (pec op_eq (pv 0) (pv 1)) (pe_one (pec op_eq (pe_callB (kIsi K) (by rfl) T.z_isinstance (by decide +kernel) (pa_cons (pv 0) (pa_cons (kTy "str" rfl T.z_str (by decide +kernel)) pa_nil))) (pe_callB (kIsi K) (by rfl) T.z_isinstance (by decide +kernel) (pa_cons (pv 1) (pa_cons (kTy "str" rfl T.z_str (by decide +kernel)) pa_nil))))))))
        pss_nil)
      (pss_one (ps_ret (pe_and (pe_callB (kIsi K) (by rfl) T.z_isinstance (by decide +kernel) (pa_cons (pv 0) (pa_cons (kTy "int" rfl T.z_int (by decide +kernel)) pa_nil))) (pe_and (pec op_eq (pe_callB (kIsi K) (by rfl) T.z_isinstance (by decide +kernel) (pa_cons (pv 0) (pa_cons (kTy "bool" rfl T.z_bool (by decide +kernel)) pa_nil))) (pe_callB (kIsi K) (by rfl) T.z_isinstance (by decide +kernel) (pa_cons (pv 1) (pa_cons (kTy "bool" rfl T.z_bool (by decide +kernel)) pa_nil)))) (pe_one (pec op_eq (pv 0) (pv 1)))))))))), ?_⟩
    refine q_when (b := false) (et_B (ev_isi (t := sqN b) (ev_var rfl) ev_c (fun _ e => sqA_ty (sqA_x hu e)) (by cases b <;> decide +kernel))) (fun h => by cases h) fun _ H1 e1 => ?_
    have isT : ∀ {x : V} {zs : List V} {i : Nat} {H2 : Hp}, SqA K H2 x zs b → [some v, some u, none][i]? = some (some x) → Ev (tCB (rIsiT K) (tCons (tVar i) (tCons (tTup (tCons (tC (.ty "tuple")) (tCons (tC (.ty "list")) tNil))) tNil))) [some v, some u, none] H2 (.bl true) := fun h hσ =>
      ev_is (ev_isiT (t := sqN b) (b := !b) (c := b) (ev_var hσ) (fun _ e => sqA_ty (sqA_x h e)) (by cases b <;> decide +kernel) (by cases b <;> decide +kernel)) (by cases b <;> rfl)
    have isLi : ∀ {x : V} {zs : List V} {i : Nat} {H2 : Hp}, SqA K H2 x zs b → [some v, some u, none][i]? = some (some x) → Ev (tCB (rIsi K) (tCons (tVar i) (tCons (tC (.ty "list")) tNil))) [some v, some u, none] H2 (.bl b) := fun h hσ =>
      ev_isi (t := sqN b) (ev_var hσ) ev_c (fun _ e => sqA_ty (sqA_x h e)) (by cases b <;> decide +kernel)
    refine q_when (b := true) (et_B (isT (sqA_x hu e1) rfl)) (fun _ H2 e2 => ?_) fun h => by cases h
    have e12 := e1.trans e2
    refine q_when (b := false) (et_or (a := false) (b := false) (et_not (a := true) (et_B (isT (sqA_x hv e12) rfl))) fun _ => et_is (et_test (ev_neb (isLi (sqA_x hv e12) rfl) (isLi (sqA_x hu e12) rfl))) (by cases b <;> rfl)) (fun h => by cases h) fun _ H3 e3 => ?_
    have e13 := e12.trans e3
    refine q_when (b := false) (et_test (ev_neiC (ev_lenA (sqA_x hv e13) (ev_var rfl)) (ev_lenA (sqA_x hu e13) (ev_var rfl)) (by rw [hl, decide_eq_true rfl]; rfl))) (fun h => by cases h) fun _ H4 e4 => ?_
    have e14 := e13.trans e4
    refine s_ret (ev_eqE (ep_is (ep_lsV (f := fun i : Nat => V.int i) (ep_comp (R := fun i => isV (.int (i : Nat))) (List.range ys.length) (fun _ => false) (fun i => i) (fun i v _ => v = .int (i : Nat)) (fun i σ2 _ => σ2 = [some v, some u, some (.int (i : Nat))]) (it_range (ea_cons (ev_lenA (sqA_x hu e14) (ev_var rfl)) ea_nil) (by omega)) (fun i x H' _ _ hx Kt kt => by
      subst hx
      exact kt _ rfl rfl) (fun i σ2 H' hm e' h => ?_) (fun i σ2 H' _ _ _ hf => by cases hf) (fun _ _ _ _ _ h => h) (by rw [List.length_range]; omega))) ?_)) fun H5 e5 => k H5 (e14.trans e5)
    · subst h
      have hlt : i < ys.length := List.mem_range.mp hm
      have e := e14.trans e'
      have hx : xs[i]? = some xs[i] := List.getElem?_eq_getElem (by omega)
      have hy : ys[i]? = some ys[i] := List.getElem?_eq_getElem hlt
      exact et_not (a := true) (et_B (ev_call (dvs := []) (ea_cons (ev_ixA (sqA_x hv e) (ev_var rfl) (ev_var rfl) hx) (ea_cons (ev_ixA (sqA_x hu e) (ev_var rfl) (ev_var rfl) hy) ea_nil)) fun H6 e6 Q k E => hi i _ _ hx hy H6 (e.trans e6) Q k E))
    · rw [List.filter_eq_nil_iff.mpr fun _ _ h => by cases h]
      rfl
end
end Ci

set_option Elab.async false
set_option linter.all false
set_option maxRecDepth 100000
set_option maxHeartbeats 4000000
/-! For the law: properties of a rule, parts that move the hand, what is right. -/
namespace Ci
open PySem PySem.Spec PyProof.Rows L2 Evl
open C8 (Cal Met Mak pe_c pe_mk pe_mt pe_mt0 pe_gc)
/-! ### plain -/
theorem both_right (ws : List Word) (y : Way) : RightN ⟨true, true⟩ ws y := by
  cases y with
  | every => exact ⟨freeR, by decide, fun f => right_every ws f⟩
  | changed => exact ⟨_, by decide, fun f => right_changed ws f⟩
theorem conflict_not {ws : List Word} {y : Way} {n : Nts} (h : ¬ RightN n ws y) : conflictL n y ws = true := by
  refine conflict_bad (fun g => ?_) (fun g => ?_) fun g => ?_
  · obtain ⟨rows, hm, hf⟩ := good_right g y
    refine h ⟨rows, ?_, hf⟩
    exact List.mem_append.mpr (.inl hm)
  · obtain ⟨rfl, hm⟩ := g
    refine h ⟨freeR, ?_, fun f => right_every ws f⟩
    unfold rulesFor
    rw [hm]
    exact List.mem_append.mpr (.inr (List.mem_append.mpr (.inl List.mem_cons_self)))
  · obtain ⟨rfl, hm⟩ := g
    refine h ⟨[⟨[.same .own .base], .take⟩], ?_, fun f => right_changed ws f⟩
    unfold rulesFor
    rw [hm]
    exact List.mem_append.mpr (.inr (List.mem_append.mpr (.inr List.mem_cons_self)))
theorem none_all {ws : List Word} {y : Way} (h : RightN ⟨false, false⟩ ws y) (n : Nts) : RightN n ws y := by
  obtain ⟨rows, hm, hf⟩ := h
  refine ⟨rows, List.mem_append.mpr (.inl ?_), hf⟩
  exact hm
theorem eqv_nt (n m : Nts) : PyData.eqv (strsD (ntsS n)) (strsD (ntsS m)) = decide (n = m) := by
  obtain ⟨a, b⟩ := n
  obtain ⟨c, d⟩ := m
  cases a <;> cases b <;> cases c <;> cases d <;> decide +kernel
theorem any_nt (m : Nts) : ∀ l : List Nts, ((l.map fun n => strsD (ntsS n)).any fun z => PyData.eqv z (strsD (ntsS m))) = decide (m ∈ l)
  | [] => rfl
  | a :: l => by
    rw [List.map_cons, List.any_cons, any_nt m l, eqv_nt]
    by_cases h : a = m
    · subst h
      rw [decide_eq_true rfl, decide_eq_true List.mem_cons_self]
      rfl
    · rw [decide_eq_false h, Bool.false_or]
      by_cases k : m ∈ l
      · rw [decide_eq_true k, decide_eq_true (List.mem_cons_of_mem _ k)]
      · rw [decide_eq_false k, decide_eq_false fun z => (List.mem_cons.mp z).elim (fun q => h q.symm) k]
/-! ### the hand -/
section
variable {K : PySem.W.Frag} {hp cl : Addr} {σ : L2.St} {H : Hp} {ta tb te tl : TE} {tt tr : TA} {t : TT} {D : Ends} {R : Pr} {Rs : List V → Hp → Prop} {g : TG} {tu : TS} {tz : TS} {E : XK} {vs : List V} {z : V}
theorem xa_one (h : EvX hp cl te σ H R) : EvXA hp cl (tCons te tNil) σ H (fun vs H1 => ∃ v, vs = [v] ∧ R v H1) := fun H1 f A Q q => h H1 f A _ fun v H2 f2 A2 r => q [v] H2 f2 A2 ⟨v, rfl, r⟩
theorem xa_consF (h : EvX hp cl ta σ H R) (st : ∀ v H1 H2, Fr hp cl H1 H2 → HA hp cl H1 → R v H1 → R v H2) (hr : EvXA hp cl tr σ H Rs) : EvXA hp cl (tCons ta tr) σ H (fun vs H1 => ∃ v r, vs = v :: r ∧ R v H1 ∧ Rs r H1) := fun H1 f A Q q =>
  h H1 f A _ fun v H2 f2 A2 rv => hr H2 (f.trans f2) A2 _ fun r H3 f3 A3 rr => q (v :: r) H3 (f2.trans f3) A3 ⟨v, r, rfl, st v H2 H3 f3 A2 rv, rr⟩
theorem xa_ea (h : ∀ H1, EvA tt σ H1 vs) : EvXA hp cl tt σ H (fun us _ => us = vs) := fun H1 f A Q q => h H1 H1 (Ex.refl _) _ fun H2 e2 => q vs H2 (frOf e2) (A.x e2) rfl
theorem xa_eas (h : ∀ H1, EvAs tt σ H1 Rs) : EvXA hp cl tt σ H Rs := fun H1 f A Q q => h H1 H1 (Ex.refl _) _ fun us H2 e2 r => q us H2 (frOf e2) (A.x e2) r
theorem qx_parB {i j : Nat} (h : EvXA hp cl tt σ H Rs) (A : HA hp cl H) (hr : ∀ vs H1, Rs vs H1 → ∃ v w, vs = [v, w]) (k : ∀ v w H2, Fr hp cl H H2 → HA hp cl H2 → Rs [v, w] H2 → tz D ((σ.set i (some v)).set j (some w)) H2) : tSeq (tPar i j tt) tz D σ H := h H (Fr.refl _) A _ fun us H1 f A1 r => by
  obtain ⟨v, w, e⟩ := hr us H1 r
  subst e
  exact ⟨v, w, rfl, k v w H1 f A1 r⟩
/-- pick, from what stands though the hand moves -/
theorem ex_pickF {i : Nat} (hi : σ[i]? = some (some (.ref hp))) (h : EvXA hp cl tt σ H Rs) (hz : ∀ vs H1, Rs vs H1 → vs ≠ [] ∧ vs.length < 1000) : EvX hp cl (tCall (spPick K) [] E (tCons (tVar i) (tCons (tLst tt) tNil))) σ H (fun v H1 => ∃ vs H0, v ∈ vs ∧ Rs vs H0 ∧ HA hp cl H0 ∧ Fr hp cl H0 H1) := fun H1 f A Q q =>
  ⟨.ref hp, hi, h H1 f A _ fun us H2 f2 A2 r => ⟨sz_of (by have := (hz us H2 r).2; omega), fun l hl => by
    have n := A2.new hl
    exact ⟨hp, cl, l, us, rfl, A2.x (Ex.new hl), n.1, n.2, upd_same, (hz us H2 r).1, (hz us H2 r).2, fun x H4 hx f4 A4 => q x H4 ((f2.trans (frOf (Ex.new hl))).trans f4) A4 ⟨us, H2, hx, r, A2, (frOf (Ex.new hl)).trans f4⟩⟩⟩⟩
theorem ex_lwords {i : Nat} (hi : σ[i]? = some (some (.ref hp))) : EvX hp cl (tCall (spLawWords K) [] E (tCons (tVar i) tNil)) σ H (wlP hp cl allWords) := fun H1 f A Q q => ⟨.ref hp, hi, hp, cl, rfl, A, fun v H2 f2 A2 h => q v H2 f2 A2 h⟩
theorem q_forNLs (h : EvAs tt σ H Rs) (hz : ∀ vs H1, Rs vs H1 → vs.length ≤ 100000) (hk : ∀ vs q H1, Ex H H1 → Rs vs H1 → H1 q = none → tSeq (tFor (iList K (tC (.ref q))) g tu) tz D σ (L2.upd H1 q (.lst vs))) : tSeq (tFor (iList K (tLst tt)) g tu) tz D σ H := s_forNLs (D := { D with nx := tz D }) h hz hk
theorem ev_callA {sp : Sp} {dvs : List V} (h : EvAs tt σ H Rs) (hs : ∀ vs H1, Ex H H1 → Rs vs H1 → SpV sp (vs ++ dvs) H1 z) : Ev (tCall sp dvs E tt) σ H z := fun H1 e Q q =>
  h H1 e _ fun us H2 e2 r => hs us H2 (e.trans e2) r H2 (Ex.refl _) Q (fun H3 e3 => q H3 (e2.trans e3)) E
theorem ep_min {ns : List Int} (h : EvP te σ H (isL (ns.map V.int))) (pos : 0 < ns.length) : EvP (tCB (rMin K) (tCons te tNil)) σ H (fun v _ => ∃ m, v = .int m ∧ m ∈ ns ∧ ∀ y ∈ ns, m ≤ y) := fun H1 e1 Q q =>
  h H1 e1 _ fun v H2 e2 ⟨p, ev, hp⟩ => ⟨p, ns, by rw [ev], SqL.of hp, pos, fun m hm hy => q _ H2 e2 ⟨m, rfl, hm, hy⟩⟩
end
/-! ### a class by its name; a rule's properties -/
theorem pe_clsN {X : Cx} {x : Str} {C : Addr} {pos : Pos} (hg : Gl X x) (hm : X.mg x = some (.ref C)) (hd : (x == ("__debug__" : Str)) = false := by decide) : PE X (.Name x pos) (tC (.ref C)) := pe_glob hg hm rfl hd
def Prp (P : Program) (w : World) (K : PySem.W.Frag) (mg : Str → Option Value) (base : Heap) (k : Nat) (C : Addr) (f : Str) (sp : Sp) : Prop := ∃ p g fd, Cls K C ∧ PropOf K C f p g ∧ FnOk P w K mg base C8.CX0 k g fd ["self"] sp ∧ Binds K fd ["self"] []
theorem pe_pr {X : Cx} {k j : Nat} {C : Addr} {f : Str} {sp : Sp} {e : Expr} {pos : Pos} {ta : TE} (c : Prp X.prog X.w X.K X.mg X.base k C f sp) (hr : Room j X.A) (hk : k + 1 ≤ j) (he : PE X e ta) (hab : attributeBase e f X.env (eval e X.env) = eval e X.env := by rfl) : PE X (.Attribute e f pos) (tProp C sp [] C8.E0 ta) := by
  obtain ⟨p, g, fd, c1, c2, c3, c4⟩ := c
  exact pe_prop he c1 c2 c3 (hr.mono hk) c4 .nil C8.pass0 hab
section
variable {P : Program} {w : World} {K : PySem.W.Frag} {mg : Str → Option Value} {base : Heap}
theorem prp_notes (T : Txt K mg) : Prp P w K mg base 1 (aRule K) "notes" (getSp (aRule K) "looks") := by
  obtain ⟨fd, F⟩ := T.gt_notes
  refine ⟨_, _, fd, T.cl_Rule, T.p_Rule_notes, F.ok sc_Rule_notes (fun vs H Q E h => ?_) fun cdv A outer s H vs Q E hr h => ?_, (F.bindsN fun _ _ _ _ _ _ us hl => match us, hl with | [_], _ => rfl)⟩
  · obtain ⟨a, dx, fs, v, rfl, _⟩ := h
    rfl
  · obtain ⟨a, dx, fs, v, rfl, ea, l, q⟩ := h
    exact ⟨_, pss_one (ps_ret (pe_fld (pv 0) rfl)), .ref a, rfl, a, aRule K, dx, fs, v, rfl, ea, T.cl_Rule, T.na_Rule_looks, l, q⟩
theorem prp_rows (T : Txt K mg) : Prp P w K mg base 1 (aRule K) "rows" (getSp (aRule K) "table") := by
  obtain ⟨fd, F⟩ := T.gt_rows
  refine ⟨_, _, fd, T.cl_Rule, T.p_Rule_rows, F.ok sc_Rule_rows (fun vs H Q E h => ?_) fun cdv A outer s H vs Q E hr h => ?_, (F.bindsN fun _ _ _ _ _ _ us hl => match us, hl with | [_], _ => rfl)⟩
  · obtain ⟨a, dx, fs, v, rfl, _⟩ := h
    rfl
  · obtain ⟨a, dx, fs, v, rfl, ea, l, q⟩ := h
    exact ⟨_, pss_one (ps_ret (pe_fld (pv 0) rfl)), .ref a, rfl, a, aRule K, dx, fs, v, rfl, ea, T.cl_Rule, T.na_Rule_table, l, q⟩
section
variable {σ : L2.St} {H : Hp} {ta tb : TE} {a dx C : Addr} {fs : List (Str × V)} {f : Str} {v : V} {E : XK}
theorem ev_prop (ha : Ev ta σ H (.ref a)) (hp : H a = some (.ins C dx fs)) (l : fs.lookup f = some v) : Ev (tProp C (getSp C f) [] E ta) σ H v := fun H1 e Q q =>
  ha H1 e _ fun H2 e2 => ⟨a, dx, fs, rfl, e2 _ _ (e _ _ hp), a, dx, fs, v, rfl, e2 _ _ (e _ _ hp), l, q H2 e2⟩
theorem ev_isRule (T : Txt K mg) (ha : Ev ta σ H (.ref a)) (hp : H a = some (.ins (aRule K) dx fs)) : Ev (tCB (rIsi K) (tCons ta (tCons (tC (.ref (aRule K))) tNil))) σ H (.bl true) := fun H1 e Q q =>
  ha H1 e _ fun H2 e2 => ⟨_, _, _, _, true, rfl, .own _, T.isRl.1 (e2 _ _ (e _ _ hp)), T.isRl.2, q H2 e2⟩
end
theorem cal_law_alike (T : Txt K mg) : Cal P w K mg base 4 "_law_alike" (spAlQ K (spAlQ K spAlS)) [] := alike_seq T (alike_seq T (alike_str T))
/-- two tuples of the same notes are alike -/
theorem alike_nt {H : Hp} {v u : V} {n : Nts} (h1 : Dp K H v (strsD (ntsS n))) (h2 : Dp K H u (strsD (ntsS n))) : SpV (spAlQ K spAlS) [v, u] H (.bl true) := fun H1 e Q k E => by
  obtain ⟨a, rfl, ha⟩ := dp_strs (dpX e _ _ h1)
  obtain ⟨b, rfl, hb⟩ := dp_strs (dpX e _ _ h2)
  refine ⟨_, _, _, _, false, rfl, ⟨a, rfl, ha⟩, ⟨b, rfl, hb⟩, rfl, ?_, fun i x y hx hy => ?_, fun H2 e2 => k H2 e2⟩
  · rw [List.length_map]
    have := size_lt n
    unfold sizeN at this
    omega
  · rw [hx] at hy
    cases hy
    rw [List.getElem?_map] at hx
    obtain ⟨z, _, rfl⟩ := Option.map_eq_some_iff.mp hx
    exact fun H3 e3 Q k E => ⟨z, rfl, fun H4 e4 => k H4 e4⟩
theorem alike_ls {H : Hp} {v u : V} {l : List Nts} (h1 : LsP (ntP K) l v H) (h2 : LsP (ntP K) l u H) (few : l.length ≤ 1000) : SpV (spAlQ K (spAlQ K spAlS)) [v, u] H (.bl true) := fun H1 e Q k E => by
  obtain ⟨p, ys, rfl, hp, hys⟩ := h1
  obtain ⟨q, zs, rfl, hq, hzs⟩ := h2
  refine ⟨_, _, ys, zs, true, rfl, ⟨p, rfl, e _ _ hp⟩, ⟨q, rfl, e _ _ hq⟩, by rw [Paired.length hys, Paired.length hzs], by rw [Paired.length hys]; exact few, fun i x y hx hy => ?_, fun H2 e2 => k H2 e2⟩
  obtain ⟨n, hn, h3⟩ := paired_get hys hx
  obtain ⟨m, hm, h4⟩ := paired_get hzs hy
  rw [hn] at hm
  cases hm
  exact alike_nt (dpX e _ _ h3) (dpX e _ _ h4)
end
end Ci

set_option Elab.async false
set_option linter.all false
set_option maxRecDepth 100000
set_option maxHeartbeats 8000000
/-! law. -/
namespace Ci
open PySem PySem.Spec PyProof.Rows L2 Evl
open C8 (Cal Met Mak pe_c pe_mk pe_mt pe_mt0 pe_gc)
theorem dps_wordsK (K : PySem.W.Frag) (H : Hp) : ∀ ws : List Word, DpAll K H (wsV ws) ((ws.map wordS).map PyData.str)
  | [] => .nil
  | _ :: ws => .cons (.str _) (dps_wordsK K H ws)
section
variable {P : Program} {w : World} {K : PySem.W.Frag} {mg : Str → Option Value} {base : Heap}
section
variable {σ : L2.St} {H : Hp} {ta tb te : TE} {tt : TA} {E : XK} {en : Addr} {es : List V} {l : List Nts} {i : Nat}
theorem pair_nt {H H' : Hp} (e : ExT H H') {ys : List V} {ns : List Nts} (h : Paired (fun y n => ntP K n y H) ys ns) : Paired (fun y n => ntP K n y H') ys ns := Paired.mapP h fun _ n z => stb_isD K (noL_strs _) _ _ _ e z
theorem stb_lsN : Stb (LsP (ntP K) l) := fun v H1 H2 e ⟨p, ys, h1, h2, h3⟩ => ⟨p, ys, h1, e _ _ h2, pair_nt (tOf e) h3⟩
theorem it_en (hσ : σ[i]? = some (some (.ref en))) (he : H en = some (.lst es)) (hp : Paired (fun y n => ntP K n y H) es l) : ItP (iList K (tVar i)) σ H l (ntP K) := it_list (ev_var hσ) (SqL.of he) (Paired.mapP hp fun _ n z H1 e => stb_isD K (noL_strs _) _ _ _ (tOf e) z)
theorem ev_lenN {v : V} {n : Nts} (ha : Ev ta σ H v) (h : Dp K H v (strsD (ntsS n))) : Ev (tCB (rLn K) (tCons ta tNil)) σ H (.int (sizeN n : Nat)) := by
  obtain ⟨a, rfl, hq⟩ := dp_strs h
  refine ev_is (ev_lenT ha hq) ?_
  rw [List.length_map]
  rfl
/-- the tuple of notes, written out -/
theorem ed_nt {n : Nts} (h : EvA tt σ H ((ntsS n).map V.str)) : EvP (tTup tt) σ H (ntP K n) := by
  refine ep_imp (ep_tup (K := K) h ?_) fun v H1 _ ⟨a, ev, h⟩ => ?_
  · rw [List.length_map]
    have := size_lt n
    unfold sizeN at this
    omega
  · subst ev
    exact .tup h (dps_strs _)
where dps_strs {K : PySem.W.Frag} {H : Hp} : ∀ ss : List Str, DpAll K H (ss.map V.str) (ss.map PyData.str)
  | [] => .nil
  | s :: ss => .cons (.str s) (dps_strs ss)
theorem sh_nt (n : Nts) : SeqAt.shaped (strsD (ntsS n)) = true := by
  obtain ⟨a, b⟩ := n
  cases a <;> cases b <;> decide +kernel
theorem et_inN {m : Nts} (ha : EvP ta σ H (ntP K m)) (hσ : σ[i]? = some (some (.ref en))) (he : H en = some (.lst es)) (hp : Paired (fun y n => ntP K n y H) es l) : EvT (tTest (tOp (rInD K) ta (tVar i))) σ H (decide (m ∈ l)) := fun H1 e1 Q q =>
  ha H1 e1 _ fun v H2 e2 hv => ⟨.ref en, hσ, _, _, hv, .lst (SqL.of ((e1.trans e2) _ _ he)) (dps_of (f := fun n => strsD (ntsS n)) (pair_nt (tOf (e1.trans e2)) hp)), sh_nt m, sh_nts l, _, rfl, by
    rw [any_nt]
    exact q H2 e2⟩
theorem et_niN {m : Nts} (ha : EvP ta σ H (ntP K m)) (hσ : σ[i]? = some (some (.ref en))) (he : H en = some (.lst es)) (hp : Paired (fun y n => ntP K n y H) es l) : EvT (tTest (tOp (rNotInD K) ta (tVar i))) σ H (!decide (m ∈ l)) := fun H1 e1 Q q =>
  ha H1 e1 _ fun v H2 e2 hv => ⟨.ref en, hσ, _, _, hv, .lst (SqL.of ((e1.trans e2) _ _ he)) (dps_of (f := fun n => strsD (ntsS n)) (pair_nt (tOf (e1.trans e2)) hp)), sh_nt m, sh_nts l, _, rfl, by
    rw [any_nt]
    exact q H2 e2⟩
theorem et_neN {n : Nts} {v u : V} (ha : Ev ta σ H v) (hb : Ev tb σ H u) (h1 : Dp K H v (strsD (ntsS n))) (h2 : Dp K H u (strsD (ntsS n))) : EvT (tTest (tOp (rNeD K) ta tb)) σ H false := by
  refine et_is (et_test (ev_op ha hb (rv_neD (fun H1 e => dpX e _ _ h1) (fun H1 e => dpX e _ _ h2) (sh_nt n) (sh_nt n)))) ?_
  rw [eqv_nt, decide_eq_true rfl]
  rfl
end
def spLaw (K : PySem.W.Frag) : Sp := fun vs H Q _ => ∃ (a : Addr) (ns : List Int), vs = [.ref a] ∧ ns.length ≤ 63 ∧ SqL K H a (ns.map V.int) ∧ ∀ H', Q (.bl true) H'
theorem law_ok (hP : PgOk P) (T : Txt K mg) {fd : FuncData} (F : FunD K "law" "law" (defArgs s_law) (defBody s_law) (defScope s_law) [] [] (He.fAd K ("law", none)) fd) : FnOk P w K mg base C8.CX0 16 (He.fAd K ("law", none)) fd ["_law_script"] (spLaw K) := by
  refine F.ok sc_law (fun vs H Q E h => ?_) fun cdv A0 outer s H vs Q E hr h => ?_
  · obtain ⟨a, ns, rfl, _⟩ := h
    rfl
  suffices z : ∃ t, PSs (cxOf C8.CX0 P w K mg base n_law "law" (defScope s_law) (He.fAd K ("law", none)) cdv A0 outer s H E).nox (defBody s_law) t ∧ t { nx := fun _ H' => Q .non H', rt := Q } (start n_law vs) H by
    obtain ⟨t, h1, h2⟩ := z
    exact ⟨t, h1.nox, h2⟩
  have kal_right_rule := fun T : Txt K mg => kal_right_rule (P := P) (w := w) (base := base) T hP
  have cal_law_refused : ∀ T : Txt K mg, Cal P w K mg base 15 "_law_refused" (spRefused K) [] := fun T => cal_law_refused T hP
  obtain ⟨a, ns, rfl, hlen, hx, k⟩ := h
  refine ⟨_, (pss_cons (ps_set (i := 1) sc_law.nd rfl (Or.inl rfl) (pe_c (cal_law_mix T) hr (by decide) rfl (pa_cons (pv 0) (pa_cons pe_int pa_nil))))
      (pss_cons (ps_par (i := 2) (j := 3) (by rfl) sc_law.nd rfl rfl (by decide) rfl rfl (pa_cons (pe_c (cal_law_words T) hr (by decide) rfl (pa_cons (pv 1) pa_nil)) (pa_cons (pe_c (cal_law_pick T) hr (by decide) rfl (pa_cons (pv 1) (pa_cons (pe_lst (pa_cons pe_str (pa_cons pe_str pa_nil))) pa_nil))) pa_nil)) (by rfl))
      (pss_cons (ps_par (i := 4) (j := 5) (by rfl) sc_law.nd rfl rfl (by decide) rfl rfl (pa_cons (pe_callTy (kTupOf K) (by rfl) T.z_tuple (by decide +kernel) (pa_cons (pv 2) pa_nil)) (pa_cons (pe_lst pa_nil) pa_nil)) (by rfl))
      (pss_cons (ps_for PassesOwn.never rfl (pi_list (pe_lst (pa_cons (pe_tup pa_nil) (pa_cons (pe_tup (pa_cons pe_str pa_nil)) (pa_cons (pe_tup (pa_cons pe_str pa_nil)) (pa_cons (pe_tup (pa_cons pe_str (pa_cons pe_str pa_nil))) pa_nil)))))) (pg_name (i := 6) sc_law.nd rfl (Or.inl rfl))
        (pss_cons (ps_set (i := 7) sc_law.nd rfl (Or.inl rfl) (pe_kw (kal_right_rule T) hr (by decide) rfl (pa_cons (pv 6) (pa_cons (pv 3) pa_nil)) (pk_cons (pv 4) pk_nil)))
        (pss_one (ps_if (ptc op_notN (pv 7) pe_non)
          (pss_cons (ps_expr (pe_bm PySem.F.plainAttrs_list PySem.F.slot_list_append PySem.F.type_list_append mt_append (pv 5) (pa_cons (pv 6) pa_nil)))
          (pss_one (ps_if (PW.pt (pw_or (ptc (kNeD K hr) (pe_pr (prp_notes T) hr (by decide) (pv 7)) (pv 6)) (pw_or (pt_not (pt_val (pe_callB (kIsi K) (by rfl) T.z_isinstance (by decide +kernel) (pa_cons (pv 7) (pa_cons (pe_clsN rfl T.g_Rule) pa_nil))))) (pw_or1 (pt_not (pt_val (pe_c (cal_law_faultless T) hr (by decide) rfl (pa_cons (pe_tup (pa_cons (pv 6) (pa_cons (pe_pr (prp_rows T) hr (by decide) (pv 7)) pa_nil))) (pa_cons (pv 3) (pa_cons (pv 2) pa_nil))))))))))
            (pss_one (ps_ret pe_bl))
            pss_nil)))
          (pss_one (ps_if (pt_not (pt_val (pe_c (cal_law_conflict T) hr (by decide) rfl (pa_cons (pv 6) (pa_cons (pv 3) (pa_cons (pv 2) pa_nil))))))
            (pss_one (ps_ret pe_bl))
            pss_nil))))))
      (pss_cons (ps_set (i := 8) sc_law.nd rfl (Or.inr rfl) (pe_callB (kMin K) (by rfl) T.z_min (by decide +kernel) (pa_cons (pe_lc (own := [("_law_notes", 6)]) (by rfl) sc_law.nd (pi_list (pv 5)) (blkOk_by (own := [("_law_notes", 6)]) (N := n_law) (sc := defScope s_law) (by decide +kernel)) (fun _ _ _ _ _ => (pg_name (i := 6) sc_law.nd rfl (Or.inl rfl))) (fun _ _ _ _ _ => pts_nil) (fun _ _ _ _ _ => (pe_callB (kLen K) (by rfl) T.z_len PySem.boot_len (pa_cons (pv 6) pa_nil)))) pa_nil)))
      (pss_cons (ps_if (pt_not (pt_val (pe_c (cal_law_alike T) hr (by decide) rfl (pa_cons (pe_kw (kal_fewest_notes T) hr (by decide) rfl (pa_cons (pv 3) pa_nil) (pk_cons (pv 4) pk_nil)) (pa_cons (pe_lcT (own := [("_law_notes", 6)]) (by rfl) sc_law.nd (pi_list (pv 5)) (blkOk_by (own := [("_law_notes", 6)]) (N := n_law) (sc := defScope s_law) (by decide +kernel)) (fun _ _ _ _ _ => (pg_name (i := 6) sc_law.nd rfl (Or.inl rfl))) (fun _ _ _ _ _ => (ptc op_eq (pe_callB (kLen K) (by rfl) T.z_len PySem.boot_len (pa_cons (pv 6) pa_nil)) (pv 8))) (fun _ _ _ _ _ => (pv 6))) pa_nil)))))
        (pss_one (ps_ret pe_bl))
        pss_nil)
      (pss_cons (ps_if (PW.pt (pw_or (ptc (kNotInD K hr) (pe_tup (pa_cons pe_str (pa_cons pe_str pa_nil))) (pv 5)) (pw_or1 (PW.pt (pw_and (ptc (kInD K hr) (pe_tup pa_nil) (pv 5)) (pw_and1 (ptc op_lt (pe_callB (kLen K) (by rfl) T.z_len PySem.boot_len (pa_cons (pv 5) pa_nil)) pe_int)))))))
        (pss_one (ps_ret pe_bl))
        pss_nil)
      (pss_cons (ps_set (i := 9) sc_law.nd rfl (Or.inl rfl) (pe_c (cal_law_pick T) hr (by decide) rfl (pa_cons (pv 1) (pa_cons (pe_lst (pa_cons (pe_tup (pa_cons pe_str (pa_cons pe_str pa_nil))) (pa_cons pe_non (pa_cons pe_str (pa_cons (pe_lst (pa_cons pe_str pa_nil)) (pa_cons (pe_tup (pa_cons pe_str pa_nil)) (pa_cons (pe_tup (pa_cons pe_int pa_nil)) pa_nil))))))) pa_nil))))
      (pss_one (ps_ret (pec op_eq (pe_c (cal_law_refused T) hr (by decide) rfl (pa_cons (pv 9) pa_nil)) (pe_un un_neg pe_int)))))))))))), ?_⟩
  refine qp_asg (R := fun v H => ∃ hp cl, v = .ref hp ∧ HA hp cl H) (ep_call (sp := spMix K) (ea_cons (ev_var rfl) (ea_cons ev_c ea_nil)) fun H0 e0 Q k E => ⟨a, ns, 12, rfl, ex_l e0 hx, hlen, by decide, by decide, fun hp cl H1 e1 A1 => k _ H1 e1 ⟨hp, cl, rfl, A1⟩⟩) fun v H1 e1 ⟨hp, cl, ev, A1⟩ => ?_
  subst ev
  -- words, way
  refine qx_parB (hp := hp) (cl := cl) (xa_consF (R := wlP hp cl allWords) (ex_lwords rfl) (fun v H1 H2 f A ⟨p, ws, h1, h2, h3, h4, h5⟩ => ⟨p, ws, h1, h2, h3, f _ _ h2 h3 h4, h5⟩) (xa_one (ex_pickF rfl (xa_ea (vs := [.str "every", .str "changed"]) fun H1 => ea_cons ev_c (ea_cons ev_c ea_nil)) fun vs H1 h => by subst h; exact ⟨by simp, by decide⟩))) A1 (fun vs H1 ⟨v, r, h1, _, u, h2, _⟩ => by subst h1 h2; exact ⟨v, u, rfl⟩) fun v u H2 f2 A2 ⟨v', r, h1, hW, u', h2, vs0, H0, hm, hv0, _, _⟩ => ?_
  cases h1
  cases h2
  subst hv0
  obtain ⟨wp, ws, rfl, wn1, wn2, hwp, hws⟩ := hW
  have nd : ws.Nodup := hws.nodup (by decide)
  have h5 : ws.length ≤ 5 := Nat.le_trans hws.length_le (by decide)
  obtain ⟨y, rfl⟩ : ∃ y, u = V.str (wayS y) := by
    rcases List.mem_cons.mp hm with h | h
    · exact ⟨.every, h⟩
    · exact ⟨.changed, List.mem_singleton.mp h⟩
  have hwp : H2 wp = some (.lst (wsV ws)) := hwp
  obtain ⟨g, hg⟩ : ∃ g : Nts → Bool, ∀ n, g n = true ↔ RightN n ws y := ⟨fun n => Classical.choose (some_bool (RightN n ws y)), fun n => Classical.choose_spec (some_bool (RightN n ws y))⟩
  -- given, enough
  refine ⟨.ref wp, rfl, wp, _, rfl, .inl ⟨SqL.of hwp, fun gv hgv0 => ⟨sz_of (by show 0 ≤ 100000; decide), fun en hen0 => ⟨.ref gv, .ref en, rfl, ?_⟩⟩⟩⟩
  have e23 : Ex H2 (L2.upd H2 gv (.tup (wsV ws))) := Ex.new hgv0
  have hgv : Dp K (L2.upd H2 gv (.tup (wsV ws))) (.ref gv) (wsD ws) := .tup (SqT.of upd_same) (dps_wordsK K _ ws)
  generalize (L2.upd H2 gv (.tup (wsV ws))) = H3 at e23 hgv hen0
  have hwp3 := e23 _ _ hwp
  have A3 := A2.x e23
  dsimp only
  refine q_forNLs (Rs := fun vs H' => Paired (fun v n => ntP K n v H') vs allN) (fun H4 e4 Q q => ?_) (fun vs H4 h => by rw [Paired.length h]; decide) fun vs q H4 e4 hvs hq0 => ?_
  · refine (eas_cons (R := ntP K ⟨false, false⟩) (ed_nt ea_nil) (stb_isD K (noL_strs _)).s (eas_cons (R := ntP K ⟨true, false⟩) (ed_nt (ea_cons ev_c ea_nil)) (stb_isD K (noL_strs _)).s (eas_cons (R := ntP K ⟨false, true⟩) (ed_nt (ea_cons ev_c ea_nil)) (stb_isD K (noL_strs _)).s (eas_cons (R := ntP K ⟨true, true⟩) (ed_nt (ea_cons ev_c (ea_cons ev_c ea_nil))) (stb_isD K (noL_strs _)).s eas_nil)))) H4 e4 _ fun vs H5 e5 ⟨v1, r1, h1, p1, v2, r2, h2, p2, v3, r3, h3, p3, v4, r4, h4, p4, h5⟩ => ?_
    subst h1 h2 h3 h4 h5
    exact q _ H5 e5 (.cons p1 (.cons p2 (.cons p3 (.cons p4 .nil))))
  have e34 : Ex H3 H4 := (Ex.new hen0).trans e4
  have hen4 : H4 en = some (.lst []) := e4 _ _ upd_same
  have nqe : q ≠ en := Ne.symm (ne_of_none hen4 hq0)
  have eq5 : Ex H4 (L2.upd H4 q (.lst vs)) := Ex.new hq0
  refine q_forLn (j := 6) ev_c (SqL.of (H := L2.upd H4 q (.lst vs)) upd_same) (fun i σ' H' => Ex H3 H' ∧ H' q = some (.lst vs) ∧ Paired (fun v n => ntP K n v H') vs allN ∧ ∃ es u6 u7, σ' = [some (.ref a), some (.ref hp), some (.ref wp), some (.str (wayS y)), some (.ref gv), some (.ref en), u6, u7, none, none] ∧ H' en = some (.lst es) ∧ Paired (fun v n => ntP K n v H') es ((allN.take i).filter g)) (fun H5 e5 => ⟨(e34.trans eq5).trans e5, e5 _ _ upd_same, pair_nt (tOf (eq5.trans e5)) hvs, [], none, none, rfl, e5 _ _ (eq5 _ _ hen4), .nil⟩) (fun i σ' H' _ h => SqL.of h.2.1) ?_ ?_
  · rintro i nv σ' H5 hnv ⟨e5, hq5, hvs5, es, u6, u7, rfl, hes, hep⟩
    obtain ⟨n, hn, hN⟩ := paired_get hvs5 hnv
    have hN : Dp K H5 nv (strsD (ntsS n)) := hN
    have les : es.length ≤ 4 := by
      rw [Paired.length hep]
      exact Nat.le_trans (List.length_filter_le _ _) (List.length_take_le' _ _)
    refine qp_asg (R := rrP K n ws y) (ep_kw (vs := [nv, .str (wayS y)]) (zs := [.ref gv]) (ea_cons (ev_var rfl) (ea_cons (ev_var rfl) ea_nil)) (ea_cons (ev_var rfl) ea_nil) fun H6 e6 Q k E => ⟨nv, y, .ref gv, n, ws, rfl, nd, dpX (e5.trans e6) _ _ hgv, dpX e6 _ _ hN, k⟩) fun rv H6 e6 hr6 => ?_
    have hN6 := dpX e6 _ _ hN
    have hes6 := e6 _ _ hes
    have hep6 := pair_nt (tOf e6) hep
    have hvs6 := pair_nt (tOf e6) hvs5
    have e36 := e5.trans e6
    rcases hr6 with ⟨rfl, nr⟩ | ⟨rows, hm, ⟨r, rfl, Rr⟩, right⟩
    · have gn : g n = false := by
        cases h : g n with
        | false => rfl
        | true => exact absurd ((hg n).mp h) nr
      refine s_if (b := false) (et_is (et_test (ev_op (ev_var rfl) ev_c rv_notN)) (by decide +kernel)) (fun h => by cases h) fun _ H7 e7 => ?_
      refine s_when (b := false) (et_not (a := true) (et_B (ev_call (sp := spConflict K) (ea_cons (ev_var rfl) (ea_cons (ev_var rfl) (ea_cons (ev_var rfl) ea_nil))) fun H8 e8 Q k E => ⟨nv, n, y, wp, ws, rfl, dpX (e7.trans e8) _ _ hN6, SqL.of (((e36.trans e7).trans e8) _ _ hwp3), h5, by
        rw [conflict_not nr]
        exact fun H9 e9 => k H9 e9⟩))) (fun h => by cases h) fun _ H8 e8 => ?_
      have e68 := e7.trans e8
      refine ⟨e36.trans e68, e68 _ _ (e6 _ _ hq5), pair_nt (tOf e68) hvs6, es, _, _, rfl, e68 _ _ hes6, ?_⟩
      rw [take_next hn, List.filter_append, List.filter_cons, if_neg (by rw [gn]; decide), List.filter_nil, List.append_nil]
      exact pair_nt (tOf e68) hep6
    · have gn : g n = true := (hg n).mpr ⟨rows, hm, right⟩
      refine s_if (b := true) (et_is (et_test (ev_op (ev_var rfl) ev_c rv_notN)) (by
        rw [decide_eq_false fun h => by cases h]
        rfl)) (fun _ H7 e7 => ?_) fun h => by cases h
      have e67 := e6.trans e7
      refine q_app (l := en) (e7 _ _ hes6) (ev_var rfl) (ev_var rfl) (by omega) fun H8 e8 => ?_
      have eT : ExT H8 (L2.upd H8 en (.lst (es ++ [nv]))) := lst_exT (e8 _ _ (e7 _ _ hes6))
      have e38 : Ex H3 (L2.upd H8 en (.lst (es ++ [nv]))) := Ex.mut (((e36.trans e7).trans e8)) hen0
      have eT6 : ExT H6 (L2.upd H8 en (.lst (es ++ [nv]))) := (tOf (e7.trans e8)).trans eT
      have hq8 : (L2.upd H8 en (.lst (es ++ [nv]))) q = some (.lst vs) := by
        rw [upd_ne nqe]
        exact e8 _ _ (e67 _ _ hq5)
      have hes8 : (L2.upd H8 en (.lst (es ++ [nv]))) en = some (.lst (es ++ [nv])) := upd_same
      have hep8 : Paired (fun v n => ntP K n v (L2.upd H8 en (.lst (es ++ [nv])))) (es ++ [nv]) (((allN.take (i + 1)).filter g)) := by
        rw [take_next hn, List.filter_append, List.filter_cons, if_pos gn, List.filter_nil]
        exact paired_snoc (F := fun v n => ntP K n v _) (dpT eT6 _ _ (noL_strs _) hN6) (pair_nt eT6 hep6)
      have R8 := Rr.t eT6
      have hN8 := dpT eT6 _ _ (noL_strs _) hN6
      have hvs8 := pair_nt eT6 hvs6
      generalize (L2.upd H8 en (.lst (es ++ [nv]))) = H9 at eT e38 eT6 hq8 hes8 hep8 R8 hN8 hvs8
      obtain ⟨dx, n', t', hR, hRn, hRt⟩ := R8.ex
      have many := R8.many
      refine s_when (b := false) (et_or (a := false) (b := false) (et_neN (ev_prop (ev_var rfl) hR rfl) (ev_var rfl) hRn hN8) fun _ => et_or (a := false) (b := false) (et_not (a := true) (et_B (ev_isRule T (ev_var rfl) hR))) fun _ => et_not (a := true) (et_B (ev_callA (Rs := fun vs H' => ∃ pq, vs = [pq, .str (wayS y), .ref wp] ∧ Dp K H' pq (ptD n rows)) (fun H10 e10 Q q => ?_) fun vs H10 e10 ⟨pq, ev, hpq⟩ => by
        subst ev
        exact fun H11 e11 Q k E => ⟨pq, n, rows, y, wp, ws, rfl, dpX e11 _ _ hpq, many, SqL.of (((e38.trans e10).trans e11) _ _ hwp3), h5, right, fun H12 e12 => k H12 e12⟩))) (fun h => by cases h) fun _ H10 e10 => ⟨e38.trans e10, e10 _ _ hq8, pair_nt (tOf e10) hvs8, es ++ [nv], _, _, rfl, e10 _ _ hes8, pair_nt (tOf e10) hep8⟩
      refine (eas_cons (R := isD K (ptD n rows)) (ep_tupA (n := 2) (eas_ea (ea_cons (ev_var rfl) (ea_cons (ev_prop (ev_var rfl) hR rfl) ea_nil))) (fun vs H1 h => by subst h; rfl) (by decide) fun vs a H1 H2 e1 h e2 h2 => by
        subst h
        exact .tup (SqT.of h2) (.cons (dpX (e1.trans e2) _ _ hN8) (.cons (dpX (e1.trans e2) _ _ hRt) .nil))) (stb_isD K (noL_pt _ _)).s (eas_v (ev_var rfl) (eas_v (ev_var rfl) eas_nil))) H10 e10 _ fun vs H11 e11 ⟨v1, r1, h1, p1, r2, h2, r3, h3, h4⟩ => ?_
      subst h1 h2 h3 h4
      exact q _ H11 e11 ⟨v1, rfl, p1⟩
  · rintro σ' H5 ⟨e5, _, _, es, u6, u7, rfl, hes, hep⟩
    have hep : Paired (fun v n => ntP K n v H5) es (allN.filter g) := by
      rw [show vs.length = allN.length from Paired.length hvs, List.take_of_length_le (Nat.le_refl _)] at hep
      exact hep
    have gB : g ⟨true, true⟩ = true := (hg _).mpr (both_right ws y)
    have memB : (⟨true, true⟩ : Nts) ∈ allN.filter g := List.mem_filter.mpr ⟨all_mem _, gB⟩
    have few : (allN.filter g).length ≤ 4 := List.length_filter_le _ _
    -- least
    refine qp_asg (ep_min (ns := (allN.filter g).map fun n => (sizeN n : Int)) (ep_is (ep_lsV (f := V.int) (ep_comp (R := fun i => isV (.int i)) (allN.filter g) (fun _ => true) (fun n => (sizeN n : Int)) (ntP K) (fun n σ2 H' => ∃ v, σ2[6]? = some (some v) ∧ ntP K n v H') (it_en rfl hes hep) (fun n v H' _ _ hv Kt kt => kt _ rfl ⟨v, rfl, hv⟩) (fun _ _ _ _ _ _ => ev_tYes) (fun n σ2 H' _ _ ⟨v, h6, hv⟩ _ => ep_v (ev_lenN (ev_var h6) hv)) (fun _ _ _ _ _ h => h) (by omega))) (by rw [List.filter_eq_self.mpr (fun _ _ => rfl)])) (by
      rw [List.length_map]
      exact List.length_pos_of_mem memB)) fun lv H6 e6 ⟨m, elv, hm, hmin⟩ => ?_
    subst elv
    obtain ⟨nm, hnm, rfl⟩ := List.mem_map.mp hm
    have hes6 := e6 _ _ hes
    have hep6 := pair_nt (tOf e6) hep
    have e36 := e5.trans e6
    -- fewest
    refine q_when (b := false) (et_not (a := true) (et_B (ev_callA (Rs := fun vs H' => ∃ v u, vs = [v, u] ∧ fnP K ws y v H' ∧ LsP (ntP K) ((allN.filter g).filter fun n => decide (sizeN n = sizeN nm)) u H') (fun H7 e7 Q q => ?_) fun vs H7 e7 ⟨v, u, ev, hv, hu⟩ => ?_))) (fun h => by cases h) fun _ H7 e7 => ?_
    · refine (eas_cons (R := fnP K ws y) (ep_kw (vs := [.str (wayS y)]) (zs := [.ref gv]) (ea_cons (ev_var rfl) ea_nil) (ea_cons (ev_var rfl) ea_nil) fun H8 e8 Q k E => ⟨y, .ref gv, ws, rfl, nd, dpX (e36.trans e8) _ _ hgv, k⟩) (fun v H1 H2 e ⟨g', h1, h2⟩ => ⟨g', h1, h2.imp (fun ⟨m, h3, h4⟩ => ⟨m, stb_lsN _ _ _ e h3, h4⟩) id⟩) (eas_cons (R := LsP (ntP K) (((allN.filter g).filter fun n => decide (sizeN n = sizeN nm)).map fun n => n)) (ep_comp (R := ntP K) (allN.filter g) (fun n => decide (sizeN n = sizeN nm)) (fun n => n) (ntP K) (fun n σ2 H' => ∃ v, σ2[6]? = some (some v) ∧ σ2[8]? = some (some (.int (sizeN nm : Nat))) ∧ ntP K n v H') (it_en rfl hes6 hep6) (fun n v H' _ _ hv Kt kt => (by
      show Kt _ H'
      exact kt _ rfl ⟨v, rfl, rfl, hv⟩)) (fun n σ2 H' _ _ ⟨v, h6, h8, hv⟩ => et_test (ev_eqi (ev_lenN (ev_var h6) hv) (ev_var h8) (decide_eq_decide.mpr ⟨fun h => by omega, fun h => by omega⟩))) (fun n σ2 H' _ _ ⟨v, h6, h8, hv⟩ _ => ep_of (ev_var h6) fun H1 e => stb_isD K (noL_strs _) _ _ _ (tOf e) hv) (fun n => stb_isD K (noL_strs _)) (by omega)) stb_lsN eas_nil)) H7 e7 _ fun vs H8 e8 ⟨v, r1, h1, p1, u, r2, h2, p2, h3⟩ => ?_
      subst h1 h2 h3
      rw [List.map_id'] at p2
      exact q _ H8 e8 ⟨v, u, rfl, p1, p2⟩
    · subst ev
      obtain ⟨g', hg', h⟩ := hv
      have eg : g' = g := by
        funext n
        have h1 := hg' n
        have h2 := hg n
        cases h3 : g n with
        | true => exact h1.mpr (h2.mp h3)
        | false =>
          cases h4 : g' n with
          | false => rfl
          | true =>
            have := h2.mpr (h1.mp h4)
            rw [h3] at this
            cases this
      subst eg
      rcases h with ⟨m, hls, hne, hless⟩ | h
      · have em : m = sizeN nm := by
          obtain ⟨n0, hn0⟩ := List.exists_mem_of_ne_nil _ hne
          obtain ⟨h1, h2⟩ := List.mem_filter.mp hn0
          obtain ⟨h3, h4⟩ := List.mem_filter.mp h1
          have h5 : sizeN n0 = m := of_decide_eq_true h4
          have h6 := hmin _ (List.mem_map.mpr ⟨n0, List.mem_filter.mpr ⟨h3, h2⟩, rfl⟩)
          have h7 := (List.mem_filter.mp hnm).2
          by_cases z : sizeN nm < m
          · rw [hless nm z] at h7
            cases h7
          · omega
        subst em
        have el : (allN.filter fun n => decide (sizeN n = sizeN nm)).filter g' = (allN.filter g').filter fun n => decide (sizeN n = sizeN nm) := by
          rw [List.filter_filter, List.filter_filter]
          congr 1
          funext n
          exact Bool.and_comm _ _
        rw [el] at hls
        exact alike_ls hls hu (Nat.le_trans (List.length_filter_le _ _) (by omega))
      · rw [h ⟨true, true⟩] at gB
        cases gB
    · have hes7 := e7 _ _ hes6
      have hep7 := pair_nt (tOf e7) hep6
      have e37 := e36.trans e7
      refine q_when (b := false) (et_or (a := false) (b := false) (et_is (et_niN (m := ⟨true, true⟩) (ed_nt (ea_cons ev_c (ea_cons ev_c ea_nil))) rfl hes7 hep7) (by rw [decide_eq_true memB]; rfl)) fun _ => et_is (et_and (et_inN (m := ⟨false, false⟩) (ed_nt ea_nil) rfl hes7 hep7) fun _ => et_test (ev_op (ev_lenL (ev_var rfl) hes7) ev_c (rv_I0 (g := fun i j => V.bl (decide (i < j)))))) ?_) (fun h => by cases h) fun _ H8 e8 => ?_
      · by_cases z : (⟨false, false⟩ : Nts) ∈ allN.filter g
        · have h0 := (hg _).mp (List.mem_filter.mp z).2
          have all : allN.filter g = allN := List.filter_eq_self.mpr fun n _ => (hg n).mpr (none_all h0 n)
          have l4 : es.length = 4 := by
            rw [Paired.length hep7, all]
            rfl
          rw [l4, decide_eq_true z]
          decide
        · rw [decide_eq_false z]
          rfl
      · have e38 := e37.trans e8
        have A8 := A3.x e38
        refine qx_asg (ex_pickF rfl (xa_eas (Rs := fun vs H' => ∃ v1 l v5 v6, vs = [v1, .non, .str "base", .ref l, v5, v6] ∧ Dp K H' v1 (strsD ["mine", "base"]) ∧ H' l = some (.lst [.str "base"]) ∧ Dp K H' v5 (strsD ["none"]) ∧ Dp K H' v6 (.tuple [.int 5])) fun H9 H10 e10 Q q => ?_) (fun vs H9 ⟨v1, l, v5, v6, h, _⟩ => by subst h; exact ⟨by simp, by show 6 < 1000; decide⟩)) A8 fun bv H9 f9 A9 ⟨vs, H0, hm, ⟨v1, l, v5, v6, ev, d1, d4, d5, d6⟩, A0', f0⟩ => ?_
        · refine (eas_cons (R := isD K (strsD ["mine", "base"])) (ep_imp (ep_tup (K := K) (vs := [.str "mine", .str "base"]) (ea_cons ev_c (ea_cons ev_c ea_nil)) (by show 2 ≤ 100000; decide)) fun v H2 _ ⟨a, e2, h⟩ => by
            subst e2
            exact .tup h (.cons (.str _) (.cons (.str _) .nil))) (stb_isD K (noL_strs _)).s (eas_v ev_c (eas_v ev_c (eas_cons (R := isL [.str "base"]) (ep_Lx (el_lst (ea_cons ev_c ea_nil) (by show 1 ≤ 100000; decide))) (stb_isL _) (eas_cons (R := isD K (strsD ["none"])) (ep_imp (ep_tup (K := K) (vs := [.str "none"]) (ea_cons ev_c ea_nil) (by show 1 ≤ 100000; decide)) fun v H2 _ ⟨a, e2, h⟩ => by
            subst e2
            exact .tup h (.cons (.str _) .nil)) (stb_isD K (noL_strs _)).s (eas_cons (R := isD K (.tuple [.int 5])) (ep_imp (ep_tup (K := K) (vs := [.int 5]) (ea_cons ev_c ea_nil) (by show 1 ≤ 100000; decide)) fun v H2 _ ⟨a, e2, h⟩ => by
            subst e2
            exact .tup h (.cons (.int _) .nil)) (stb_isD K (by decide +kernel)).s eas_nil)))))) H10 e10 _ fun vs H11 e11 ⟨v1, r1, h1, p1, r2, h2, r3, h3, v4, r4, h4, ⟨l, h4', p4⟩, v5, r5, h5, p5, v6, r6, h6, p6, h7⟩ => ?_
          subst h1 h2 h3 h4 h4' h5 h6 h7
          exact q _ H11 e11 ⟨v1, l, v5, v6, rfl, p1, p4, p5, p6⟩
        · have bad : BadN K H9 bv := by
            subst ev
            have eT := f0.t A0'
            rcases List.mem_cons.mp hm with rfl | hm
            · exact .inr (.inr (.inr (.inl (dpT eT _ _ (noL_strs _) d1))))
            rcases List.mem_cons.mp hm with rfl | hm
            · exact .inl rfl
            rcases List.mem_cons.mp hm with rfl | hm
            · exact .inr (.inl ⟨_, rfl⟩)
            rcases List.mem_cons.mp hm with rfl | hm
            · have n := A0'.strs d4
              exact .inr (.inr (.inl ⟨l, _, rfl, f0 _ _ n.1 n.2 d4⟩))
            rcases List.mem_cons.mp hm with rfl | hm
            · exact .inr (.inr (.inr (.inr (.inl (dpT eT _ _ (noL_strs _) d5)))))
            · obtain rfl := List.mem_singleton.mp hm
              exact .inr (.inr (.inr (.inr (.inr (dpT eT _ _ (by decide +kernel) d6)))))
          exact s_ret (v := .bl true) (ev_eqi (i := -1) (j := -1) (ev_call (sp := spRefused K) (ea_cons (ev_var rfl) ea_nil) fun H10 e10 Q k E => ⟨bv, rfl, bad.x e10, fun H11 e11 => k H11 e11⟩) (ev_un ev_c ru_neg) (decide_eq_true rfl)) fun H10 _ => k H10
end
abbrev lawLevel : Nat := 16
theorem law_end {P : Program} (hP : PgOk P) {w : World} {K : PySem.W.Frag} {mg : Str → Option Value} {h : Heap} {fa : Addr} (KX : K.In h) (G : h.Ns mainGlobals mg) (hmg : mg ("law" : Str) = some (.ref fa)) (c : SaysC K) :
    ∃ (K : PySem.W.Frag) (fd : FuncData) (sp : Sp), K.In h ∧ (∀ (s : Shared) (u : Value), BindsTo s fd ⟨[u], []⟩ [("_law_script", u)]) ∧
      (∀ (H : Hp) (a : Addr) (ns : List Int), ns.length ≤ 63 → Only H → SqL K H a (ns.map V.int) → sp [.ref a] H (fun v _ => v = .bl true) fun _ _ _ => False) ∧
      ∀ base : Heap, K.In base → base.Ns mainGlobals mg → FnOk P w K mg base C8.CX0 lawLevel fa fd ["_law_script"] sp := by
  have T : Txt K mg := ⟨⟨h, KX, G⟩, c⟩
  obtain ⟨fd, F⟩ := T.f_law
  have e : fa = He.fAd K ("law", none) := by
    have h1 := T.g_law
    rw [hmg] at h1
    have h2 := Option.some.inj h1
    injection h2
  subst e
  exact ⟨K, fd, spLaw K, KX, fun s u => F.bindsA (ps := ["_law_script"]) (fun _ _ _ _ _ _ us hl => match us, hl with | [_], _ => rfl) s [u] rfl, fun H a ns hn _ hs => ⟨a, ns, rfl, hn, hs, fun _ => rfl⟩, fun base _ _ => law_ok hP T F⟩
end Ci

set_option Elab.async false
set_option linter.all false
set_option maxRecDepth 100000
set_option maxHeartbeats 0
namespace Ci
open PySem PySem.Spec PyProof.Rows L2
def names0 : List PySem.Str := ["_wall", "CarryError", "InvalidRule", "UnknownRow", "InvalidWords", "MOST_ROWS", "MOST_TESTS", "ALL_NOTES", "SPOTS", "PAIRS", "SINGLES", "FLAGS", "ANSWERS", "ACTIONS", "is_integer", "is_word", "are_notes", "is_test", "is_row", "Rule", "KEEP", "EVERY", "CHANGED", "LOST", "MISSED", "WAYS", "State", "first_state", "happened", "EVENTS"]
def names1 : List PySem.Str := ["words_of", "values_for", "events_for", "Walk", "common_key", "with_event", "walked", "WORDS", "fault_behind", "faults_by", "FREE", "SAME", "DELETED", "rules_with", "right_rule_by", "right_rule", "fewest_notes", "_law_mix", "_law_next", "_law_alike", "_law_pick", "_law_new", "_law_spot", "_law_so", "_law_row", "_law_carried", "_law_done", "_law_due", "_law_key", "_law_choices"]
def names2 : List PySem.Str := ["_law_layers", "_law_words", "_law_sight", "_law_conflict", "_law_served", "_law_faultless", "_law_refused"]
def names : List PySem.Str := names0 ++ names1 ++ names2
abbrev R : PySem.W.OpenRow := PySem.W.OpenLaw.row PySem.Challenge.rw_carriedin_k12_whole_enough_notes
abbrev hk : PySem.W.Hook := hookC 6
def ob (s : PySem.W.SharedT) : AlC := obsCG 6 (HandSHeadRun.getT s)
theorem ob_eq (s : PySem.W.SharedT) : ob s = hk.obs s.abs := obsCG_eq (HandSHeadRun.getT_eq s)
theorem run (w : World) : HandSHeadRun.RunEq R (PySem.W.view R.prog [74]) hk ob 6000 names w := by
  intro os
  kernel_rfl
end Ci
open PySem PySem.W PySem.Calls PyProof.Rows
theorem PySem.Challenge.cw_carriedin_k12_whole_enough_notes_holds : PySem.Challenge.rw_carriedin_k12_whole_enough_notes.Holds := by
  w_on; o_law
  refine HandSHeadRun.head_any (r := OpenLaw.row PySem.Challenge.rw_carriedin_k12_whole_enough_notes) (q := view (OpenLaw.row PySem.Challenge.rw_carriedin_k12_whole_enough_notes).prog [74]) (H := Ci.hk) (ob := Ci.ob) (M := 6000) (loose := Ci.names) (d := HandSHeadRun.topDef (OpenLaw.row PySem.Challenge.rw_carriedin_k12_whole_enough_notes).prog 74) (kwd := []) Ci.ob_eq
    (by kernel_rfl) (fun s => by kernel_rfl) Ci.run (by kernel_rfl) (by kernel_rfl) (by kernel_rfl) (by rfl) (by first | assumption | decide +kernel) (by decide +kernel) ⟨rfl, rfl, rfl, rfl, rfl, by decide +kernel⟩ ?hw ?hc
  case hw => w_witness2
  case hc =>
    refine L2.walk_ofE (l := PySem.Challenge.rw_carriedin_k12_whole_enough_notes) (n := 63) (k := Ci.lawLevel) (x := "_law_script") (CX := C8.CX0) rfl (by decide) (by kernel_rfl) ⟨rfl, by decide, by decide⟩ ?F (fun _ _ _ _ z => z)
    intro w mg fa h Y G hmg0
    obtain ⟨K, KX, c⟩ := Y
    have hmg : mg ("law" : PySem.Str) = some (.ref fa) := by
      have e : (HandSHeadRun.topDef (OpenLaw.row PySem.Challenge.rw_carriedin_k12_whole_enough_notes).prog 74).name = ("law" : PySem.Str) := by kernel_rfl
      rw [← e]
      exact hmg0
    exact Ci.law_end (hP := ⟨rfl, by decide +kernel⟩) (P := (PySem.Challenge.rw_carriedin_k12_whole_enough_notes).prog) (w := w) KX G hmg c
