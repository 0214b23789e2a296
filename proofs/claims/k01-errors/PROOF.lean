import PyProof.Rows.All
import Wide.All
import OpenK.AllK
import Wide.FinOn
import PyProof.EqAt
import PyProof.EqKinds
import PyProof.TupleCall
import KE.KFromBytes
import KE.KSuper
import KE.KExcSuper
import KE.KExcInit
import HandS.Base
import HandS.Call
import HandS.List
import HandS.Ends
import HandS.Exc
import HandS.ExcOwn
import HandS.ExcInit
import HandS.ExcField
import HandS.ExcSuper
import HandS.Codes
import HandS.Lambda
import HandS.Nested
import HandS.Words
import HandS.WordsExc
import HandS.IsInst
import KE.KExcIs
import KE.KIsAll
import HandS.ExcValue
import HandS.ExcIs
import PyProof.ReprRoads
import HandS.HeadEnd
import HandS.Defaults
import HandS.WordsDict
import HandS.WordsList
import HandS.Dict
import HandS.Wide
import HandS.Iter
import HandS.Comp
import HandS.HeadHook1
import HandS.HeadHook2
import HandS.Head0
import HandS.Head1
import HandS.Head2
import PySem.Challenge.RW_dutytongue_k01_errors_keep_what_is_seale
set_option Elab.async false
set_option linter.all false
set_option maxRecDepth 100000
set_option maxHeartbeats 0
/-! Own exceptions over Exception whose __init__ calls super().__init__ and keeps fields: made as values. -/
namespace Ex
open PySem PySem.Spec PyProof.Rows L2

abbrev exT : List Value := [.type "Exception", .type "BaseException", .type "object"]
/-- what the written part says of such a class -/
structure Ec (K : PySem.W.Frag) (C : Addr) : Prop where
  ini : PySem.W.excInitIn K C exT "Exception.__new__" = true
  ovr : PySem.W.excOver K C exT = true
  hdc : PySem.W.hasDictIn K C = true
  sat : PySem.W.findIn K (.ref C) "__setattr__" = some (some (.builtin "object.__setattr__"))
  gat : PySem.W.findIn K (.ref C) "__getattribute__" = some (some (.builtin "BaseException.__getattribute__"))
  gan : PySem.W.findIn K (.ref C) "__getattr__" = some none
  sbB : PySem.W.subIn K (.ref C) (.type "BaseException") = some true
  sbE : PySem.W.subIn K (.ref C) (.type "Exception") = some true
  kep : PySem.W.keepIn K (.ref C) = true
  typ : PySem.W.typeIn K (.ref C) = some (.type "type")
def ecB (K : PySem.W.Frag) (C : Addr) : Bool :=
  PySem.W.excInitIn K C exT "Exception.__new__" && (PySem.W.excOver K C exT && (PySem.W.hasDictIn K C && (decide (PySem.W.findIn K (.ref C) "__setattr__" = some (some (.builtin "object.__setattr__"))) &&
    (decide (PySem.W.findIn K (.ref C) "__getattribute__" = some (some (.builtin "BaseException.__getattribute__"))) && (decide (PySem.W.findIn K (.ref C) "__getattr__" = some none) && (decide (PySem.W.subIn K (.ref C) (.type "BaseException") = some true) &&
      (decide (PySem.W.subIn K (.ref C) (.type "Exception") = some true) && (PySem.W.keepIn K (.ref C) && decide (PySem.W.typeIn K (.ref C) = some (.type "type"))))))))))
theorem ecB_ok {K : PySem.W.Frag} {C : Addr} (h : ecB K C = true) : Ec K C := by
  unfold ecB at h
  simp only [Bool.and_eq_true, decide_eq_true_eq] at h
  obtain ⟨h1, h2, h3, h4, h5, h6, h7, h8, h9, h10⟩ := h
  exact ⟨h1, h2, h3, h4, h5, h6, h7, h8, h9, h10⟩

section
open Builtin Builtin.ObjectAttr
variable {prog : Program} {w : World} {A : Around} {E : Value → Shared → Prop} {R : Result → Shared → Prop} {hp : Heap} {g : Array GenState} {d : Drawn} {t : Nat} {os : OsState}
theorem takes_none {K : PySem.W.Frag} {C : Addr} {f : Str} (h : PySem.W.findIn K (.ref C) f = some none) : PySem.W.takerIn K C f = some none := by
  unfold PySem.W.takerIn
  rw [h] <;> rfl
theorem put_first {K : PySem.W.Frag} {name : Str} {tk : Tok} {v : Value} {x C : Addr} {fv : Array Value} (T : Ec K C)
    (X : K.In hp) (hx : hp.get? x = some { cls := .ref C, data := .fields fv }) (ha : PySem.W.findIn K (.ref C) name = some none)
    (hq : ∀ h' tk' dx, (∀ b o, b ≠ x → hp.get? b = some o → h'.get? b = some o) → hp.objs.size ≤ dx → dx ≠ x → h'.get? x = some { cls := .ref C, dict := some dx, data := .fields fv } →
      h'.Ns1 dx (fun y => if y = name then some v else none) → R (.ok (.ret .none)) ⟨h', g, d, tk', os⟩) :
    codeAny (model prog w) A (.call (.builtin "object.__setattr__") ⟨[.ref x, .str name tk, v], []⟩) R ⟨hp, g, d, t, os⟩ := by
  have I : PySem.W.InstAt hp x { cls := .ref C, data := .fields fv } C none := ⟨hx, rfl, rfl, trivial⟩
  have hxs : x ≠ hp.objs.size := Nat.ne_of_lt (Heap.lt_size hx)
  refine PySem.W.osa_openX (s := ⟨hp, g, d, t, os⟩) F.store_Exception X I T.ovr (takes_none ha) fun b => ?_
  obtain ⟨cd, hcd, hh⟩ : ∃ cd, PySem.W.clsIn K C = some cd ∧ cd.hasDict = true := PySem.W.any_some T.hdc
  have hcls : PySem.W.Looks (model prog w) hp (classData C) cd := PySem.W.looks_clsIn X hcd
  obtain ⟨nm, bs, mro, ns, qn, hd, sn, sb, ab, col, del⟩ := cd
  dsimp only at hh
  subst hh
  show wpAny _ _ (storeInOwnDict (.ref x) (.ref C) (.str name tk) name v b) _ _ _
  unfold storeInOwnDict ownDictForStores
  repeat (first | with_reducible refine PySem.HandSPX.store_in_new ?_ ?_ | with_reducible refine wpAny_loadPart_at hx ?_ | with_reducible refine hcls.at ?_ | wp_step)
  · exact ⟨_, #[], _, (Heap.get?_update_ne _ _ _ _ hxs.symm).trans (Heap.get?_push_at rfl rfl), rfl, fun e he => absurd he (by simp), fun _ => rfl⟩
  · intro h' tk' hn' hs
    have hx₁ : (hp.push { cls := .type "dict", data := .dict #[] }).get? x = some { cls := .ref C, data := .fields fv } := Heap.get?_push_of_some _ hx
    refine hq h' tk' hp.objs.size (fun b o hb ho => ?_) (Nat.le_refl _) hxs.symm ?_ hn'
    · exact (hs.2 b (Nat.ne_of_lt (Heap.lt_size ho))).trans ((Heap.get?_update_ne _ _ _ _ hb).trans (Heap.get?_push_of_some _ ho))
    · exact (hs.2 x hxs).trans (Heap.get?_update_self _ hx₁ rfl)
theorem put_next {K : PySem.W.Frag} {name : Str} {tk : Tok} {v : Value} {x C dx : Addr} {fv : Array Value} {m0 : Str → Option Value} {nl : List Str} (T : Ec K C)
    (X : K.In hp) (hx : hp.get? x = some { cls := .ref C, dict := some dx, data := .fields fv }) (hns : hp.Ns1 dx m0) (hw : Within m0 nl) (hz : nl.length ≤ 1000)
    (ha : PySem.W.findIn K (.ref C) name = some none)
    (hq : ∀ h' tk', (∀ b o, b ≠ dx → hp.get? b = some o → h'.get? b = some o) → h'.Ns1 dx (fun y => if y = name then some v else m0 y) → R (.ok (.ret .none)) ⟨h', g, d, tk', os⟩) :
    codeAny (model prog w) A (.call (.builtin "object.__setattr__") ⟨[.ref x, .str name tk, v], []⟩) R ⟨hp, g, d, t, os⟩ := by
  obtain ⟨oD, esD, epD, hoD, hdD, _⟩ := hns.count hw
  have I : PySem.W.InstAt hp x { cls := .ref C, dict := some dx, data := .fields fv } C (some oD) := ⟨hx, rfl, rfl, hoD⟩
  refine PySem.W.osa_openX (s := ⟨hp, g, d, t, os⟩) F.store_Exception X I T.ovr (takes_none ha) fun b => ?_
  obtain ⟨cd, hcd, hh⟩ : ∃ cd, PySem.W.clsIn K C = some cd ∧ cd.hasDict = true := PySem.W.any_some T.hdc
  have hcls : PySem.W.Looks (model prog w) hp (classData C) cd := PySem.W.looks_clsIn X hcd
  obtain ⟨nm, bs, mro, ns, qn, hd, sn, sb, ab, col, del⟩ := cd
  dsimp only at hh
  subst hh
  show wpAny _ _ (storeInOwnDict (.ref x) (.ref C) (.str name tk) name v b) _ _ _
  unfold storeInOwnDict ownDictForStores
  repeat (first | with_reducible refine PySem.OEX.store_in_old hns hw hz ?_ | with_reducible refine wpAny_loadPart_at hx ?_ | with_reducible refine hcls.at ?_ | wp_step)
  intro h' tk' hn' hs
  exact hq h' tk' (fun b o hb ho => (hs.2 b hb).trans ho) hn'
end
end Ex

/-! self.f = v in such an __init__; super().__init__(..) there. -/
namespace Ex
open PySem PySem.Spec L2
open PyProof.Rows hiding St

section
variable {X : Cx} {pins : List (Addr × Obj)} {σ : St} {H : Hp} {s : Shared} {a C dx : Addr} {f : Str} {y : V} {u : Value} {fs : List (Str × V)} {Q : Unit → Shared → Prop} {E : Value → Shared → Prop} {A : Around}
theorem keep_new (T : Ec X.K C) (I : Inv X pins σ H s) (e : H a = some (exo a C none)) (hno : PySem.W.findIn X.K (.ref C) f = some none) (ry : RelV y u)
    (h : ∀ dx s', H dx = none → dx ≠ a → Inv X pins σ (upd (upd H dx (exd dx [(f, y)])) a (exo a C (some dx))) s' → Q () s') : wpAny (model X.prog X.w) A (setAttr (.ref a) f u) Q E s := by
  obtain ⟨t1, ho⟩ := exo_at I.hok e
  obtain ⟨hp, g, d, t, os⟩ := s
  refine PySem.W.set_plain I.kIn (ox := { cls := .ref C, dict := none, data := .fields #[.ref t1, .none, .none, .none, .bool false, .none] }) (od := none) ⟨ho, rfl, rfl, trivial⟩ T.sat ?_
  refine put_first T I.kIn ho hno (fun h' tk' dx k dn dne hx hn => ?_)
  have hnd : H dx = none := I.hok.fresh dn
  have nd : ∀ {b : Addr} {o : Obj}, hp.get? b = some o → b ≠ dx := fun {b o} q => Nat.ne_of_lt (Nat.lt_of_lt_of_le (Heap.lt_size q) dn)
  have na : ∀ {b : Addr}, H b = none → b ≠ a := fun {b} n z => by
    rw [z, e] at n
    cases n
  have U : Un X.fs [] H (upd (upd H dx (exd dx [(f, y)])) a (exo a C (some dx))) hp h' := {
    keep := fun b o q n _ _ => k b o (na n) q
    slot := fun b o q n _ _ => ⟨o.slots, k b o (na n) q⟩
    free := fun b o q n _ => by rw [upd_ne (na n), upd_ne (nd q)]; exact n
    there := fun b o q _ => by
      by_cases hb : b = a
      · exact ⟨_, by rw [hb]; exact hx⟩
      · exact ⟨o, k b o hb q⟩
    tups := fun b xs q => by rw [upd_ne (at_ne e q exo_tup), upd_ne (ne_of_none q hnd)]; exact q
    frzs := fun b o v q => by rw [upd_ne (at_ne e q exo_frz), upd_ne (ne_of_none q hnd)]; exact q
    tbls := fun b ps q => ⟨#[], by rw [upd_ne (at_ne e q exo_tbl), upd_ne (ne_of_none q hnd), q]; simp⟩ }
  refine h dx _ hnd dne (I.un (t' := tk') U fun b o q => ?_)
  by_cases hb : b = a
  · subst hb
    rw [upd_same] at q
    cases q
    exact exo_ok hx
  · rw [upd_ne hb] at q
    by_cases hd : b = dx
    · subst hd
      rw [upd_same] at q
      cases q
      exact exd_ok hn (relO_put (fs := []) ry fun g => True.intro)
    · rw [upd_ne hd] at q
      exact (I.hok b o q).stay (fun c v hc z => k c v (by
          rcases hc with hc | hc
          · rw [hc]
            exact hb
          · exact at_ne e hc exo_own) z)
        (fun c hc => by rw [upd_ne (at_ne e hc exo_own), upd_ne (ne_of_none hc hnd)]; exact hc) (fun c xs hc => by rw [upd_ne (at_ne e hc exo_tup), upd_ne (ne_of_none hc hnd)]; exact hc)
theorem keep_more (T : Ec X.K C) (I : Inv X pins σ H s) (e : H a = some (exo a C (some dx))) (ed : H dx = some (exd dx fs)) (hl : fs.length ≤ 900) (hno : PySem.W.findIn X.K (.ref C) f = some none) (ry : RelV y u)
    (h : ∀ s', Inv X pins σ (upd H dx (exd dx ((f, y) :: fs))) s' → Q () s') : wpAny (model X.prog X.w) A (setAttr (.ref a) f u) Q E s := by
  obtain ⟨t1, ho⟩ := exo_at I.hok e
  obtain ⟨mA, hns, rel⟩ := exd_at I.hok ed
  have hw := within_of rel
  obtain ⟨hp, g, d, t, os⟩ := s
  obtain ⟨oD, _, _, hoD, _, _⟩ := hns.count hw
  refine PySem.W.set_plain I.kIn (ox := { cls := .ref C, dict := some dx, data := .fields #[.ref t1, .none, .none, .none, .bool false, .none] }) (od := some oD) ⟨ho, rfl, rfl, hoD⟩ T.sat ?_
  refine put_next T I.kIn ho hns hw (by rw [List.length_map]; omega) hno (fun h' tk' k hn => ?_)
  have hd : ∃ o, h'.get? dx = some o := by
    obtain ⟨o, _, _, e', _⟩ := hn
    exact ⟨o, e'⟩
  exact h _ (I.write (t' := tk') (x := dx) (e := dx) (o := exd dx ((f, y) :: fs)) (by rw [ed]; exact True.intro) (.inl rfl) k hd (exd_ok hn (relO_put ry rel)))
end
/-- self.f = e -/
def tKeep (K : PySem.W.Frag) (f : Str) (to te : TE) : TS := fun D σ H => te σ H fun y H1 => to σ H1 fun x H2 => ∃ a C : Addr, x = .ref a ∧ Ec K C ∧ PySem.W.findIn K (.ref C) f = some none ∧
  ((H2 a = some (exo a C none) ∧ ∀ dx, H2 dx = none → dx ≠ a → D.nx σ (upd (upd H2 dx (exd dx [(f, y)])) a (exo a C (some dx)))) ∨
    ∃ (dx : Addr) (fs : List (Str × V)), H2 a = some (exo a C (some dx)) ∧ H2 dx = some (exd dx fs) ∧ fs.length ≤ 900 ∧ D.nx σ (upd H2 dx (exd dx ((f, y) :: fs))))
section
variable {X : Cx} {o e : Expr} {es : List Expr} {to te : TE} {ta : TA} {f : Str} {p p' p1 p2 pos : Pos}
theorem ps_keep (ho : PE X o to) (he : PE X e te) (hs : swapsWith e (some (.Attribute o f p')) pos.line X.env = pure false := by rfl) : PS X (.Assign [.Attribute o f p'] e pos) (tKeep X.K f to te) := by
  refine ⟨fun pins s σ H D I h => ?_⟩
  refine plainObj_wpAny_Assign_Attribute (thn (he.run pins s σ H _ I h) fun v s1 ⟨y, H1, I1, r1, q1⟩ => thn (ho.run pins s1 σ H1 _ I1 q1) fun u s2 ⟨x, H2, I2, r2, a, C, ex, T, hno, q⟩ => ?_) hs
  subst ex
  obtain rfl : u = Value.ref a := r2
  rcases q with ⟨ea, q⟩ | ⟨dx, fs, ea, ed, hl, q⟩
  · exact keep_new T I2 ea hno r1 fun dx s' n ne J => ⟨σ, _, J, q dx n ne⟩
  · exact keep_more T I2 ea ed hl hno r1 fun s' J => ⟨σ, _, J, q⟩
end

/-! ### super().__init__(..) -/
/-- what the written part says of such an __init__ at f, in the class at D -/
structure Sup (K : PySem.W.Frag) (prog : Program) (mg : Str → Option Value) (f cda cc D : Addr) (sf : Str) : Prop where
  fn : ∃ oc od fd osl ar, K.lookup f = some ⟨oc, od, .func fd, osl⟩ ∧ (fd.params.posonlyargs ++ fd.params.args).head? = some ar ∧ ar.arg = sf
  code : ∃ ccl cdd vs ccs file tf, K.lookup cda = some ⟨ccl, cdd, .fields vs, ccs⟩ ∧ vs[2]? = some (.str file tf) ∧ ((prog.main.file : Str) == file) = true
  cell : ∃ cl cld csl, K.lookup cc = some ⟨cl, cld, .cell (some (.ref D)), csl⟩
  cls : ∃ cd, PySem.W.clsIn K D = some cd
  nosup : mg "super" = none
  top : (prog.main.scope.names.lookup ("super" : Str)).isSome = false
  opq : PySem.W.nsIn K cStatics "thirdparty.any" = some none
section
variable {X : Cx} {pins : List (Addr × Obj)} {σ : St} {H : Hp} {s : Shared} {a C D f cda cc : Addr} {sf : Str} {E : Value → Shared → Prop} {body : List Stmt} {p0 p1 p2 pos pos' : Pos} {e : Expr} {es : List Expr} {ta : TA} {Q : Hp → Prop}
theorem st_super (S : Sup X.K X.prog X.mg f cda cc D sf) (T : Ec X.K C) (hsub : PySem.W.mroIn X.K C (.ref D) = some true) (hal : PySem.W.ks_superIn X.K C D "__init__" = some (some (.builtin "Exception.__init__")))
    (hfu : X.env.func = some f) (hco : X.env.code = .ref cda) (hks : X.env.kindOf "super" = some .globalImplicit) (hkc : X.env.kindOf "__class__" = some .free) (hcl : X.env.cells.lookup ("__class__" : Str) = some cc)
    (hN : X.N[0]? = some sf) (hkl : X.env.kindOf sf = some .local) (I : Inv X pins σ H s) (h0 : σ[0]? = some (some (.ref a))) (ea : H a = some (exo a C none))
    (ha : PA X (e :: es) ta) (h : ta σ H fun vs H1 => vs.length ≤ 1000 ∧ H1 a = some (exo a C none) ∧ Q H1)
    {pl : Sem Bool} (hi : interactive X.env = false := by rfl)
    (hc : eval (.Call (.Attribute (.Call (.Name "super" p0) [] [] p1) "__init__" p2) (e :: es) [] pos) X.env = (do
      let v ← attributeBase (.Call (.Name "super" p0) [] [] p1) "__init__" X.env (eval (.Call (.Name "super" p0) [] [] p1) X.env)
      standAt p2.atName
      let (f, first) ← holding [v] (getMethod v "__init__" pl)
      callWith pos f first (backTo pos (starEach (e :: es) X.env)) []) := by rfl)
    (he : starEach (e :: es) X.env = (false, eval e X.env) :: starEach es X.env := by rfl) (hpl : (backTo pos (starEach es X.env)).any (·.1) = false := by rfl) :
    _root_.PySem.wpAt (model X.prog X.w) X.A (.func body X.env) (exec (.Expr (.Call (.Attribute (.Call (.Name "super" p0) [] [] p1) "__init__" p2) (e :: es) [] pos) pos') X.env)
      (fun fl s' => fl = .next ∧ ∃ H1, Inv X pins σ H1 s' ∧ Q H1) X.xe s := by
  obtain ⟨oc, od, fd, osl, ar, hf, hp, har⟩ := S.fn
  obtain ⟨ccl, cdd, vs, ccs, file, tf, hcode, hvs, hfile⟩ := S.code
  obtain ⟨cl, cld, csl, hcell⟩ := S.cell
  obtain ⟨cdD, hD⟩ := S.cls
  subst har
  obtain ⟨cdC, hcC⟩ : ∃ cd, PySem.W.clsIn X.K C = some cd := by
    obtain ⟨cd, q, _⟩ := PySem.W.any_some T.hdc
    exact ⟨cd, q⟩
  obtain ⟨t1, ho⟩ := exo_at I.hok ea
  obtain ⟨hp0, g, d, t, os⟩ := s
  have KI : X.K.In hp0 := I.kIn
  have In : PySem.W.InstAt hp0 a { cls := .ref C, dict := none, data := .fields #[.ref t1, .none, .none, .none, .bool false, .none] } C none := ⟨ho, rfl, rfl, trivial⟩
  obtain ⟨oD, hD1, hD2⟩ : ∃ oD, hp0.get? D = some oD ∧ oD.data = .cls cdD := by
    unfold PySem.W.clsIn at hD
    split at hD
    · rename_i c d cd' sl ho
      cases hD
      exact ⟨_, KI _ _ ho, rfl⟩
    · cases hD
  refine ks_wpAt_Expr_any (ks_wpAt_MethodCall (pl := pl) ?_ hc) hi
  refine ks_wpAt_super_base hks hkc (by decide) hfu (KI _ _ hf) rfl hp hco (KI _ _ hcode) rfl hvs hfile S.top ?_
  obtain ⟨mb, m1, m2⟩ := I.mod.blt
  refine PySem.W.ks_loadName_global I.ok.kind hks (Calls.loadGlobal_builtin (by rw [I.ok.glob]; exact I.mod.glob.keeps I.bk) S.nosup (by rw [I.ok.blt]; exact m1.keeps I.bk) ((m2 "super" (by decide)).trans (by kernel_rfl)) ⟨rfl, ?_⟩)
  refine wpAny_loadName_free I.ok.kind hkc hcl ⟨_, KI _ _ hcell, rfl⟩ ?_
  obtain ⟨m, hns, hloc⟩ := I.loc
  obtain ⟨u0, ru, lk⟩ := hloc 0 ar.arg (.ref a) hN h0 (.inl hkl)
  obtain rfl : u0 = Value.ref a := ru
  have hm : m ar.arg = some (.ref a) := by
    rcases lk with ⟨_, z⟩ | ⟨z, _⟩
    · exact z
    · rw [hkl] at z
      rcases z with z | z <;> cases z
  refine wpAny_loadName_local I.ok.kind hkl hns hm ?_
  refine ks_wpAny_isType_cls hD1 hD2 ⟨rfl, ?_⟩
  refine ks_wpAny_call_super hD1 hD2 ho rfl (fun c z => by cases z) (PySem.W.looks_mroIn KI hsub) (fun h1 e1 k1 => ?_)
  have I1 : Inv X pins σ H ⟨h1, g, d, t, os⟩ := I.kept (t' := t) k1
  have KI1 : X.K.In h1 := I1.kIn
  have hal' : PySem.W.alongIn X.K "__init__" ((cdC.mro.dropWhile (· != .ref D)).drop 1) = some (some (.builtin "Exception.__init__")) := by
    unfold PySem.W.ks_superIn at hal
    rw [hcC] at hal
    exact hal
  have In1 : PySem.W.InstAt h1 a { cls := .ref C, dict := none, data := .fields #[.ref t1, .none, .none, .none, .bool false, .none] } C none := ⟨k1 _ _ ho, rfl, rfl, trivial⟩
  refine PySem.ESX.getMethod_super e1 (PySem.W.looks_opaque KI1 S.opq) (l₀ := cdC.mro) (fun A Q E s k q => wpAny_bind ((PySem.W.looks_clsIn KI1 hcC) A _ E s k (wpAny_pure q))) rfl KI1 hal' (PySem.W.ks_ne KI In hcC) (by decide) (In1.type.andThen (PySem.W.looks_subIn KI1 T.sbE)) ?_
  have k2 : ∀ b o, h1.get? b = some o → (h1.push (PySem.ESX.bw a)).get? b = some o := fun b o z => Heap.get?_push_of_some _ z
  have I2 : Inv X pins σ H ⟨h1.push (PySem.ESX.bw a), g, d, t + 1, os⟩ := I1.kept (t' := t + 1) k2
  have eu : (h1.push (PySem.ESX.bw a)).get? h1.objs.size = some (PySem.ESX.bw a) := Heap.get?_push_size _ rfl
  have nL : h1.objs.size ≠ X.env.locals := fun z => by
    obtain ⟨oL, _, _, hL, _⟩ := hns
    have q := Heap.lt_size (k1 _ _ hL)
    rw [← z] at q
    exact Nat.lt_irrefl _ q
  have nfs : h1.objs.size ∉ X.fs := I1.nofs (Nat.le_refl _)
  have I3 : Inv X ((h1.objs.size, PySem.ESX.bw a) :: pins) σ H ⟨h1.push (PySem.ESX.bw a), g, d, t + 1, os⟩ := I2.pins_of (by
    intro p hp
    rcases List.mem_cons.mp hp with rfl | hp
    · exact ⟨eu, I1.hok.fresh (Nat.le_refl _), nL, nfs, fun v z => by cases z⟩
    · exact I2.pin p (List.mem_append_right _ hp))
  refine PySem.ESX.callWith_bound (x := a) (thn (ha.run pos _ _ σ H _ I3 h) fun us s1 ⟨vs1, H1, I4, r1, hl, ea1, q⟩ => ?_) he hpl
  have hu := (I4.pin (h1.objs.size, PySem.ESX.bw a) (List.mem_append_right _ List.mem_cons_self)).1
  refine ⟨hu, ?_⟩
  obtain ⟨t2, ho2⟩ := exo_at I4.hok ea1
  obtain ⟨nm, N', qn, bs, bm, hdct, sn, sub, ab, col, dd, k0, k1', k2', k3, k5, hC, _⟩ := PySem.W.excInit_of I4.kIn T.ini
  obtain ⟨h4, g4, d4, t4, os4⟩ := s1
  refine PySem.ESX.call_bw (t0 := t2) hC ho2 hu (show us.length ≤ sizeLine by rw [← Paired.length r1, sizeLine_eq]; omega) fun h' t3 kk e3 => ?_
  have eu2 : upd H1 a (exo a C none) = H1 := by
    funext b
    by_cases hb : b = a
    · rw [hb, upd_same, ea1]
    · rw [upd_ne hb]
  have J := I4.write (t' := t4) (x := a) (e := a) (o := exo a C none) (h' := h') (by rw [ea1]; exact True.intro) (.inl rfl) kk ⟨_, e3⟩ (exo_ok e3)
  rw [eu2] at J
  refine ⟨rfl, H1, J.pins_of fun p hp => J.pin p (List.mem_append_right _ (List.mem_cons_of_mem _ hp)), q⟩
end
end Ex

/-! An __init__ that begins with super().__init__(..): its promise. -/
namespace Ex
open PySem PySem.Spec L2
open PyProof.Rows hiding St

theorem lk1 {α : Type} (x y : Str) (c : α) : List.lookup y [(x, c)] = if y = x then some c else none := by
  by_cases h : y = x
  · subst h
    simp [List.lookup]
  · have e : (y == x) = false := by simpa using h
    rw [if_neg h]
    simp [List.lookup, e]
/-- such a def at f -/
structure Ini (K : PySem.W.Frag) (prog : Program) (mg : Str → Option Value) (name qual : Str) (params : Arguments) (body : List Stmt) (scope : Scope) (f D : Addr) (fd : FuncData) (cc cda : Addr) : Prop where
  ex : ∃ (oc : Value) (od : Option Addr) (doc pm ct : Value) (an : Option Addr) (osl : Array (Option Value)),
    fd = PySem.W.fnX name qual params body scope [("__class__", cc)] .none .none doc pm an (.ref cda) ct ∧ K.lookup f = some ⟨oc, od, .func fd, osl⟩
  code : PySem.W.codeIn K (.ref cda) qual = true
  sup : Sup K prog mg f cda cc D "self"
  kep : PySem.W.keepIn K (.ref f) = true
  typ : PySem.W.typeIn K (.ref f) = some (.type "function")
abbrev nf (name qual : Str) (params : Arguments) (body : List Stmt) (scope : Scope) (cc cda : Addr) : NdefX.NF := ⟨name, qual, params, body, scope, [("__class__", cc)], cda⟩
section
variable {P : Program} {w : World} {K : PySem.W.Frag} {mg : Str → Option Value} {base : Heap} {CX : CXT} {k : Nat} {name qual : Str} {params : Arguments} {st : Stmt} {body : List Stmt} {scope : Scope} {f D cc cda : Addr} {fd : FuncData} {N ps : List Str} {sp : Sp}
  {p0 p1 p2 pos pos' : Pos} {e : Expr} {es : List Expr}
theorem ini_ok (F : Ini K P mg name qual params (.Expr (.Call (.Attribute (.Call (.Name "super" p0) [] [] p1) "__init__" p2) (e :: es) [] pos) pos' :: body) scope f D fd cc cda)
    (S : NdefX.NScope N ps ["__class__"] scope) (T : Ec K D) (hsub : PySem.W.mroIn K D (.ref D) = some true) (hal : PySem.W.ks_superIn K D D "__init__" = some (some (.builtin "Exception.__init__")))
    (hN : N[0]? = some ("self" : Str)) (hkl : scope.names.lookup ("self" : Str) = some .local) (hks : scope.names.lookup ("super" : Str) = some .globalImplicit)
    (len : ∀ vs H Q E, sp vs H Q E → vs.length = ps.length)
    (hbody : ∀ (A : Around) (outer : List Env) (s : Shared) (H : Hp) (vs : List V) (Q : VK) (E : XK), sp vs H Q E →
      ∃ a ta t, vs[0]? = some (.ref a) ∧ H a = some (exo a D none) ∧
        PA (NdefX.ncx CX P w K mg base N (nf name qual params (.Expr (.Call (.Attribute (.Call (.Name "super" p0) [] [] p1) "__init__" p2) (e :: es) [] pos) pos' :: body) scope cc cda) f A outer s H E) (e :: es) ta ∧
        PSs (NdefX.ncx CX P w K mg base N (nf name qual params (.Expr (.Call (.Attribute (.Call (.Name "super" p0) [] [] p1) "__init__" p2) (e :: es) [] pos) pos' :: body) scope cc cda) f A outer s H E) body t ∧
        ta (NdefX.startF N vs [none]) H fun us H1 => us.length ≤ 1000 ∧ H1 a = some (exo a D none) ∧ t { nx := fun _ H' => Q .non H', rt := Q } (NdefX.startF N vs [none]) H1)
    (hc : ∀ env, ∃ pl : Sem Bool, eval (.Call (.Attribute (.Call (.Name "super" p0) [] [] p1) "__init__" p2) (e :: es) [] pos) env = (do
      let v ← attributeBase (.Call (.Name "super" p0) [] [] p1) "__init__" env (eval (.Call (.Name "super" p0) [] [] p1) env)
      standAt p2.atName
      let (f, first) ← holding [v] (getMethod v "__init__" pl)
      callWith pos f first (backTo pos (starEach (e :: es) env)) []) := by exact fun _ => ⟨_, rfl⟩)
    (he : ∀ env, starEach (e :: es) env = (false, eval e env) :: starEach es env := by exact fun _ => rfl) (hpl : ∀ env, (backTo pos (starEach es env)).any (·.1) = false := by exact fun _ => rfl) :
    FnOk P w K mg base CX (k + 1) f fd ps sp := by
  refine ⟨len, fun A outer s H args us vs Q E hr e0 hb r hsp => ?_⟩
  obtain ⟨oc, od, doc, pm, ct, an, osl, rfl, lk⟩ := F.ex
  have hl := len _ _ _ _ hsp
  have KX : K.In s.heap := e0.mod.kin.keeps fun b o e => (e0.bs b o e).1
  have lim : s.heap.NoLimit := e0.mod.nolimit.keeps fun b o e => (e0.bs b o e).1
  refine ks_codeAny_call_defAt hr.depth (KX _ _ lk) rfl lim (PySem.W.codeRec_of KX F.code) rfl hb S.nocell (fun ⟨n, _⟩ hy => S.par n (List.of_mem_zip hy).1) (fun h₁ hns kp => ?_) S.co S.gen S.kind
  obtain ⟨a, ta, t, h0, ha, hta, hts, hq⟩ := hbody A outer s H vs Q E hsp
  obtain ⟨cl, cld, csl, hcell⟩ := F.sup.cell
  have hcn : H cc = none := (e0.bs cc _ (e0.mod.kin _ _ hcell)).2
  have C : NdefX.CellsAt [(("__class__" : Str), cc)] ["__class__"] [none] s.heap H := by
    refine ⟨rfl, fun y c hy => ?_, fun x y c hx hy => ?_, fun i y hi => ?_⟩
    · rw [lk1] at hy
      split at hy
      · cases hy
        exact ⟨hcn, _, _, KX _ _ hcell, rfl⟩
      · cases hy
    · rw [lk1] at hx hy
      split at hx
      · split at hy
        · rename_i z1 z2
          rw [z1, z2]
        · cases hy
      · cases hx
    · cases i with
      | zero =>
        cases hi
        exact ⟨cc, by simp [List.lookup], fun v hv => by cases hv⟩
      | succ i => cases hi
  have I := NdefX.inv_startN (CX := CX) (N := N) (f := f) (E := E) (F := nf name qual params (.Expr (.Call (.Attribute (.Call (.Name "super" p0) [] [] p1) "__init__" p2) (e :: es) [] pos) pos' :: body) scope cc cda) (tk := s.toks + (ps.zip us).length) S hr.hd e0 hl r C hns kp
  have h00 : (NdefX.startF N vs [none])[0]? = some (some (.ref a)) := by
    unfold NdefX.startF
    cases vs with
    | nil => cases h0
    | cons v vs => cases h0; rfl
  have hin : interactive (NdefX.ncx CX P w K mg base N (nf name qual params (.Expr (.Call (.Attribute (.Call (.Name "super" p0) [] [] p1) "__init__" p2) (e :: es) [] pos) pos' :: body) scope cc cda) f A outer s H E).env = false := by
    show (scope.kind == .module && _) = false
    rw [S.kind]
    rfl
  obtain ⟨pl, hc'⟩ := hc (NdefX.ncx CX P w K mg base N (nf name qual params (.Expr (.Call (.Attribute (.Call (.Name "super" p0) [] [] p1) "__init__" p2) (e :: es) [] pos) pos' :: body) scope cc cda) f A outer s H E).env
  refine ks_wpAt_execs_cons (_root_.PySem.wpAt_mono (st_super (X := NdefX.ncx CX P w K mg base N (nf name qual params (.Expr (.Call (.Attribute (.Call (.Name "super" p0) [] [] p1) "__init__" p2) (e :: es) [] pos) pos' :: body) scope cc cda) f A outer s H E) (body := (.Expr (.Call (.Attribute (.Call (.Name "super" p0) [] [] p1) "__init__" p2) (e :: es) [] pos) pos' :: body)) F.sup T hsub hal rfl rfl hks (S.frk _ (by simp)) (by rw [show (NdefX.ncx CX P w K mg base N (nf name qual params (.Expr (.Call (.Attribute (.Call (.Name "super" p0) [] [] p1) "__init__" p2) (e :: es) [] pos) pos' :: body) scope cc cda) f A outer s H E).env.cells = [(("__class__" : Str), cc)] from rfl, lk1, if_pos rfl]) hN hkl I h00 ha hta hq hin hc' (he _) (hpl _)) (fun fl s1 hfl => ?_) fun _ _ z => z)
  obtain ⟨rfl, H1, J, q⟩ := hfl
  refine _root_.PySem.wpAt_of_wpAny (wpAny_mono (hts.run [] _ _ _ _ J q) (fun fl s' hs => ?_) fun e s' hs => hs)
  have fin : ∀ {σ' : L2.St} {H' : Hp} {v : V} {u : Value}, Inv (NdefX.ncx CX P w K mg base N (nf name qual params (.Expr (.Call (.Attribute (.Call (.Name "super" p0) [] [] p1) "__init__" p2) (e :: es) [] pos) pos' :: body) scope cc cda) f A outer s H E) [] σ' H' s' → L2.RelV v u → Q v H' → CE outer P w H s Q u s' :=
    fun {σ' H' v u} J rv q => ⟨v, H', J.os, J.bare, J.base, J.hok, rv, q⟩
  cases fl with
  | ret u =>
    obtain ⟨v, σ', H', J, rv, q⟩ := hs
    exact fin J rv q
  | next =>
    obtain ⟨σ', H', J, q⟩ := hs
    exact fin (v := V.non) (u := Value.none) J rfl q
  | brk =>
    obtain ⟨_, _, _, q⟩ := hs
    exact False.elim q
  | cont =>
    obtain ⟨_, _, _, q⟩ := hs
    exact False.elim q
end
end Ex

/-! C(..) of an own exception class with keywords too: at the library's level. -/
namespace Ex
open PySem PySem.Spec L2
open PyProof.Rows hiding St wpAt wpAt_bind wpAt_stack
open PySem.Calls PySem.HandSPX

section
variable {M : Model} {A : Around} {E : Value → Shared → Prop} {h : Heap} {g : Array GenState} {d : Drawn} {t : Nat} {os : OsState}
variable {nm q : Str} {C N : Addr} {bs bm bmB : List Value} {hdct : Bool} {sn : List Str} {sub : List Value} {ab : Bool} {col : Option Bool} {dd : Option Addr} {k0 k1 k2 k3 k5 : Option Value} {B newId initId : String}
theorem look_typeCall {us : List Value} {kw : List (Str × Value)} {Q : Unit → Shared → Prop} (hC : h.get? C = some (excClassObj nm q C N bs bm hdct sn sub ab col dd k0 k1 k2 k3 k5 newId))
    (z : Q () ⟨h, g, d, t, os⟩) : wpAny M A (checkBuiltinCall "type.__call__" ⟨.ref C :: us, kw⟩) Q E ⟨h, g, d, t, os⟩ := by
  have f3 := tc_sub
  have hT : (⟨h, g, d, t, os⟩ : Shared).TypeIs (.ref C) "type" := ⟨_, hC, rfl⟩
  simp only [checkBuiltinCall, tc_kind, tc_split]
  repeat (any_goals (first | assumption | with_reducible refine wpAny_loadPart_at hC ?_ | with_reducible refine wpAny_onRaise ?_ | with_reducible refine wpAny_map ?_ | wp_step))
theorem look_new (FB : ExcBaseFacts B newId initId bmB) (hT : ∀ X : String, bm.contains (.type X) = bmB.contains (.type X)) {us : List Value} {kw : List (Str × Value)} {Q : Unit → Shared → Prop}
    (hC : h.get? C = some (excClassObj nm q C N bs bm hdct sn sub ab col dd k0 k1 k2 k3 k5 newId)) (z : Q () ⟨h, g, d, t, os⟩) : wpAny M A (checkBuiltinCall newId ⟨.ref C :: us, kw⟩) Q E ⟨h, g, d, t, os⟩ := by
  have hcont : (Value.ref C :: bm).contains (.type B) = true := by rw [List.contains_cons, hT, FB.hasB, Bool.or_true]
  have hstar := FB.noStar
  simp only [checkBuiltinCall, FB.newKind, FB.newSplit, FB.newRow]
  repeat (first | refine wpAny_loadPart_at hC ?_ | (refine wpAny_isSubtype_exc hC ?_; rw [hcont]) | refine wpAny_staticBase_exc hC ?_ | refine wpAny_madeBy_exc hC ?_ | simp only [bne_self_eq_false, Bool.false_eq_true, if_false] | wp_step)
  exact z
end
section
variable {prog : Program} {w : World} {A : Around} {E : Value → Shared → Prop} {R : Result → Shared → Prop} {h : Heap} {g : Array GenState} {d : Drawn} {t : Nat} {os : OsState}
variable {nm q : Str} {C N : Addr} {bs bm bmB : List Value} {hdct : Bool} {sn : List Str} {sub : List Value} {ab : Bool} {col : Option Bool} {dd : Option Addr} {k0 k1 k2 k3 k5 : Option Value} {B newId initId : String}
theorem made_new (FB : ExcBaseFacts B newId initId bmB) (hT : ∀ X : String, bm.contains (.type X) = bmB.contains (.type X)) {us : List Value} {kw : List (Str × Value)}
    (hC : h.get? C = some (excClassObj nm q C N bs bm hdct sn sub ab col dd k0 k1 k2 k3 k5 newId))
    (z : R (.ok (.ret (.ref (h.objs.size + 1)))) ⟨(h.push (PySem.W.kdv_tup us)).push (excO C h.objs.size), g, d, t, os⟩) (hz : us.length ≤ sizeLine) :
    codeAny (model prog w) A (.builtin newId ⟨.ref C :: us, kw⟩) R ⟨h, g, d, t, os⟩ := by
  have hends := FB.ends
  have hcB : (Value.ref C :: bm).contains (.type B) = true := by rw [List.contains_cons, hT, FB.hasB, Bool.or_true]
  have hcA : (Value.ref C :: bm).contains (.type "AttributeError") = false := by rw [List.contains_cons, hT, FB.noAttr]; rfl
  have hcN : (Value.ref C :: bm).contains (.type "NameError") = false := by rw [List.contains_cons, hT, FB.noName]; rfl
  refine codeAny_builtinAt FB.entry ?_
  unfold Builtin.«BaseException.__new__»
  refine wpAt_bind ?_
  show wpAt _ _ _ (stack >>= _) _ _ _
  refine wpAt_bind (wpAt_stack fun p below => wpAt_of_wpAny ?_)
  wp_walk
  refine wpAt_of_wpAny ?_
  rw [FB.owner]
  repeat (first | with_reducible refine wpAny_madeHere_exc FB.canon hC ?_ | with_reducible refine wpAny_loadPart_at hC ?_ | (with_reducible refine wpAny_isSubtype_exc hC ?_; first | rw [hcB] | rw [hcA] | rw [hcN]) | wp_step)
  all_goals try (show R _ _; rw [Heap.size_push]; exact z)
theorem made_call (FB : ExcBaseFacts B newId initId bmB) (hT : ∀ X : String, bm.contains (.type X) = bmB.contains (.type X)) {us : List Value} {kw : List (Str × Value)} {fI : Addr} {Q : Fin → Shared → Prop}
    (hC : h.get? C = some (excClassObj nm q C N bs bm hdct sn sub ab col dd k0 k1 k2 k3 k5 newId))
    (hi : W.Looks (model prog w) h (typeLookup (.ref C) "__init__") (some (.ref fI))) (hb : ∀ y, W.Looks (model prog w) h (bindSpecial (.ref fI) y) (.ref fI, [y])) (hz : us.length ≤ sizeLine)
    (z : codeAny (model prog w) A (.call (.ref fI) ⟨.ref (h.objs.size + 1) :: us, kw⟩)
      (fun r s' => match r with | .ok (.ret v) => v = .none ∧ Q (.done (.ret (.ref (h.objs.size + 1)))) s' | .ok _ => False | .error e => E e s')
      ⟨(h.push (W.kdv_tup us)).push (excO C h.objs.size), g, d, t, os⟩) :
    wpAny (model prog w) A (Builtin.«type.__call__» ⟨.ref C :: us, kw⟩) Q E ⟨h, g, d, t, os⟩ := by
  repeat (first | with_reducible refine wpAny_loadPart_at hC ?_ | with_reducible refine wpAny_madeBy_exc hC ?_ | wp_step)
  refine codeAny_call_builtin_code (Code.quiet_builtin _ FB.quiet) (look_new FB hT hC ?_)
  refine made_new FB hT hC ?_ hz
  show wpAny _ _ _ _ _ _
  have k : ∀ b o, h.get? b = some o → ((h.push (W.kdv_tup us)).push (excO C h.objs.size)).get? b = some o := fun b o e => Heap.get?_push_of_some _ (Heap.get?_push_of_some _ e)
  have hC₁ := k _ _ hC
  have hget : ((h.push (W.kdv_tup us)).push (excO C h.objs.size)).get? (h.objs.size + 1) = some (excO C h.objs.size) := by heap_get
  have hcC : (Value.ref C :: bm).contains (.ref C) = true := by simp
  have i1 := hi.keeps k
  have b1 := (hb (.ref (h.objs.size + 1))).keeps k
  unfold isInstance
  repeat (first | with_reducible refine wpAny_loadPart_at hget ?_ | (with_reducible refine wpAny_isSubtype_exc hC₁ ?_; rw [hcC]) | wp_step)
  show wpAny _ _ (typeLookup (.ref C) _) _ _ _
  refine i1.at ?_
  refine wpAny_holding (wpAny_bind (b1.at ?_))
  refine wpAny_bind (wpAny_call (codeAny_mono z fun r s' y => ?_))
  rcases r with e | (v | _ | _ | _) <;> first | exact y | exact y.elim | skip
  obtain ⟨rfl, y⟩ := y
  first
    | exact wpAny_pure (wpAny_pure y)
    | (wp_walk; exact y)
theorem call_made (FB : ExcBaseFacts B newId initId bmB) (hT : ∀ X : String, bm.contains (.type X) = bmB.contains (.type X)) {us : List Value} {kw : List (Str × Value)} {fI : Addr}
    (hC : h.get? C = some (excClassObj nm q C N bs bm hdct sn sub ab col dd k0 k1 k2 k3 k5 newId))
    (hi : W.Looks (model prog w) h (typeLookup (.ref C) "__init__") (some (.ref fI))) (hb : ∀ y, W.Looks (model prog w) h (bindSpecial (.ref fI) y) (.ref fI, [y])) (hz : us.length ≤ sizeLine)
    (z : codeAny (model prog w) (A.under (.builtin "type.__call__" ⟨.ref C :: us, kw⟩)) (.call (.ref fI) ⟨.ref (h.objs.size + 1) :: us, kw⟩) (W.InitBack (h.objs.size + 1) R)
      ⟨(h.push (W.kdv_tup us)).push (excO C h.objs.size), g, d, t, os⟩) :
    codeAny (model prog w) A (.call (.ref C) ⟨us, kw⟩) R ⟨h, g, d, t, os⟩ := by
  have f1 := tc_lookup
  have f2 := tc_bind (.ref C)
  have hTy : (⟨h, g, d, t, os⟩ : Shared).TypeIs (.ref C) "type" := ⟨_, hC, rfl⟩
  refine codeAny_of_tree ?_
  show wpAny _ _ (callAny (.ref C) _) _ _ _
  repeat (any_goals (first | assumption | with_reducible refine wpAny_loadPart_at hC ?_ | wp_step))
  refine ⟨rfl, ?_⟩
  refine codeAny_call_builtin_at (Code.quiet_builtin _ (by decide +kernel)) entry_typeCall (look_typeCall hC (made_call FB hT hC hi hb hz ?_))
  refine codeAny_mono z fun r s' y => ?_
  rcases r with e | (v | _ | _ | _) <;> exact y
end
end Ex

/-! Such classes over the layer: made by place and by name, their fields read, isinstance. -/
namespace Ex
open PySem PySem.Spec L2
open PyProof.Rows hiding St

/-! ### the promise of the two shapes of __init__ -/
def sp1 (D : Addr) (x : Str) : Sp := fun vs H Q _ => ∃ a v, vs = [.ref a, v] ∧ H a = some (exo a D none) ∧ ∀ dx, H dx = none → dx ≠ a → Q .non (upd (upd H dx (exd dx [(x, v)])) a (exo a D (some dx)))
def sp2 (D : Addr) (x y : Str) : Sp := fun vs H Q _ => ∃ a v u, vs = [.ref a, v, u] ∧ H a = some (exo a D none) ∧
  ∀ dx, H dx = none → dx ≠ a → Q .non (upd (upd (upd H dx (exd dx [(x, v)])) a (exo a D (some dx))) dx (exd dx [(y, u), (x, v)]))
section
variable {P : Program} {w : World} {K : PySem.W.Frag} {mg : Str → Option Value} {base : Heap} {CX : CXT} {name qual : Str} {params : Arguments} {scope : Scope} {f D cc cda : Addr} {fd : FuncData} {x y : Str}
  {p0 p1 p2 p3 p4 p5 p6 p7 p8 p9 q3 q6 q7 pos pos' : Pos}
theorem ini1 (F : Ini K P mg name qual params [.Expr (.Call (.Attribute (.Call (.Name "super" p0) [] [] p1) "__init__" p2) [.Name x p3] [] pos) pos', .Assign [.Attribute (.Name "self" p4) x p5] (.Name x p6) p7] scope f D fd cc cda)
    (S : NdefX.NScope ["self", x, "__class__"] ["self", x] ["__class__"] scope) (T : Ec K D) (hsub : PySem.W.mroIn K D (.ref D) = some true) (hal : PySem.W.ks_superIn K D D "__init__" = some (some (.builtin "Exception.__init__")))
    (hno : PySem.W.findIn K (.ref D) x = some none) (hks : scope.names.lookup ("super" : Str) = some .globalImplicit)
    (hd : (x == ("__debug__" : Str)) = false) (hcd : (x == ("__classdict__" : Str)) = false) 
    (hc : ∀ env, ∃ pl : Sem Bool, eval (.Call (.Attribute (.Call (.Name "super" p0) [] [] p1) "__init__" p2) [.Name x p3] [] pos) env = (do
      let v ← attributeBase (.Call (.Name "super" p0) [] [] p1) "__init__" env (eval (.Call (.Name "super" p0) [] [] p1) env)
      standAt p2.atName
      let (f, first) ← holding [v] (getMethod v "__init__" pl)
      callWith pos f first (backTo pos (starEach ([.Name x p3]) env)) []) := by exact fun _ => ⟨_, rfl⟩) :
    FnOk P w K mg base CX 1 f fd ["self", x] (sp1 D x) := by
  have v1 : Vis scope "self" := .inl (S.par _ (by simp))
  have v2 : Vis scope x := .inl (S.par _ (by simp))
  refine ini_ok F S T hsub hal rfl (S.par _ (by simp)) hks (fun vs H Q E h => ?_) (fun A outer s H vs Q E h => ?_) hc
  · obtain ⟨a, v, rfl, _⟩ := h
    rfl
  · obtain ⟨a, v, rfl, e, q⟩ := h
    refine ⟨a, _, _, rfl, e, pa_cons (pe_var (i := 1) rfl v2 hd hcd) pa_nil, pss_one (ps_keep (pe_var (i := 0) rfl v1) (pe_var (i := 1) rfl v2 hd hcd)), ?_⟩
    exact ⟨_, rfl, by simp, e, _, rfl, _, rfl, a, D, rfl, T, hno, .inl ⟨e, fun dx n ne => q dx n ne⟩⟩
theorem ini2 (F : Ini K P mg name qual params [.Expr (.Call (.Attribute (.Call (.Name "super" p0) [] [] p1) "__init__" p2) [.Name x p3, .Name y q3] [] pos) pos', .Assign [.Attribute (.Name "self" p4) x p5] (.Name x p6) p7, .Assign [.Attribute (.Name "self" p8) y p9] (.Name y q6) q7] scope f D fd cc cda)
    (S : NdefX.NScope ["self", x, y, "__class__"] ["self", x, y] ["__class__"] scope) (T : Ec K D) (hsub : PySem.W.mroIn K D (.ref D) = some true) (hal : PySem.W.ks_superIn K D D "__init__" = some (some (.builtin "Exception.__init__")))
    (hno : PySem.W.findIn K (.ref D) x = some none) (hno2 : PySem.W.findIn K (.ref D) y = some none) (hks : scope.names.lookup ("super" : Str) = some .globalImplicit)
    (hd : (x == ("__debug__" : Str)) = false) (hcd : (x == ("__classdict__" : Str)) = false) (hd2 : (y == ("__debug__" : Str)) = false) (hcd2 : (y == ("__classdict__" : Str)) = false)
    (hc : ∀ env, ∃ pl : Sem Bool, eval (.Call (.Attribute (.Call (.Name "super" p0) [] [] p1) "__init__" p2) [.Name x p3, .Name y q3] [] pos) env = (do
      let v ← attributeBase (.Call (.Name "super" p0) [] [] p1) "__init__" env (eval (.Call (.Name "super" p0) [] [] p1) env)
      standAt p2.atName
      let (f, first) ← holding [v] (getMethod v "__init__" pl)
      callWith pos f first (backTo pos (starEach ([.Name x p3, .Name y q3]) env)) []) := by exact fun _ => ⟨_, rfl⟩) :
    FnOk P w K mg base CX 1 f fd ["self", x, y] (sp2 D x y) := by
  have v1 : Vis scope "self" := .inl (S.par _ (by simp))
  have v2 : Vis scope x := .inl (S.par _ (by simp))
  have v3 : Vis scope y := .inl (S.par _ (by simp))
  refine ini_ok F S T hsub hal rfl (S.par _ (by simp)) hks (fun vs H Q E h => ?_) (fun A outer s H vs Q E h => ?_) hc
  · obtain ⟨a, v, u, rfl, _⟩ := h
    rfl
  · obtain ⟨a, v, u, rfl, e, q⟩ := h
    refine ⟨a, _, _, rfl, e, pa_cons (pe_var (i := 1) rfl v2 hd hcd) (pa_cons (pe_var (i := 2) rfl v3 hd2 hcd2) pa_nil),
      pss_cons (ps_keep (pe_var (i := 0) rfl v1) (pe_var (i := 1) rfl v2 hd hcd)) (pss_one (ps_keep (pe_var (i := 0) rfl v1) (pe_var (i := 2) rfl v3 hd2 hcd2))), ?_⟩
    refine ⟨_, rfl, _, rfl, by simp, e, _, rfl, _, rfl, a, D, rfl, T, hno, .inl ⟨e, fun dx n ne => ?_⟩⟩
    refine ⟨_, rfl, _, rfl, a, D, rfl, T, hno2, .inr ⟨dx, _, upd_same, by rw [upd_ne ne, upd_same], by simp, q dx n ne⟩⟩
end

/-! ### C(e, ..), C(k = e, ..) -/
def tMk (C : Addr) (sp : Sp) (ta : TA) : TE := fun σ H Q => ta σ H fun vs H1 => vs.length ≤ 1000 ∧ ∀ a, H1 a = none → sp (.ref a :: vs) (upd H1 a (exo a C none)) (fun v H2 => v = .non ∧ Q (.ref a) H2) (fun _ _ _ => False)
section
variable {X : Cx} {CX : CXT} {x : Str} {C fI : Addr} {k : Nat} {fd : FuncData} {ps ks : List Str} {sp : Sp} {e : Expr} {es : List Expr} {kws : List Keyword} {ta : TA} {p pos : Pos}
theorem run_mkG {pins : List (Addr × Obj)} {σ : St} {H1 : Hp} {s1 : Shared} {Q : VK} {us bs : List Value} {kw : List (Str × Value)} {vs ys : List V} (T : Ec X.K C) (iC : PySem.W.findIn X.K (.ref C) "__init__" = some (some (.ref fI))) (tI : PySem.W.typeIn X.K (.ref fI) = some (.type "function"))
    (F1 : FnOk X.prog X.w X.K X.mg X.base CX k fI fd ps sp) (hr : Room (k + 1) X.A) (hb : ∀ (s : Shared) (u : Value), X.K.In s.heap → BindsTo s fd ⟨u :: us, kw⟩ (ps.zip (u :: bs))) (hx : Passes CX X (fun _ _ _ => False))
    (I1 : Inv X pins σ H1 s1) (r1 : Vals vs us) (rz : Vals ys bs) (hz : vs.length ≤ 1000)
    (q1 : ∀ a, H1 a = none → sp (.ref a :: ys) (upd H1 a (exo a C none)) (fun v H2 => v = .non ∧ Q (.ref a) H2) (fun _ _ _ => False)) :
    wpAny (model X.prog X.w) X.A (call (.ref C) us kw) (EP X pins σ Q) X.xe s1 := by
  obtain ⟨nm, N', qn, bss, bm, hdct, sn, sub, ab, col, dd, k0, k1', k2', k3, k5, hC, hbm⟩ := PySem.W.excInit_of I1.kIn T.ini
  obtain ⟨hp, g, dr, tk, os⟩ := s1
  have hsz : hp.objs.size ≤ hp.objs.size + 1 := Nat.le_succ _
  have hn : H1 (hp.objs.size + 1) = none := I1.hok.fresh hsz
  have hq := q1 (hp.objs.size + 1) hn
  have kk : ∀ b o, hp.get? b = some o → ((hp.push (PySem.W.kdv_tup us)).push (PySem.HandSPX.excO C hp.objs.size)).get? b = some o := fun b o e => Heap.get?_push_of_some _ (Heap.get?_push_of_some _ e)
  have hget : ((hp.push (PySem.W.kdv_tup us)).push (PySem.HandSPX.excO C hp.objs.size)).get? (hp.objs.size + 1) = some (PySem.HandSPX.excO C hp.objs.size) := by heap_get
  have I2 : Inv X pins σ (upd H1 (hp.objs.size + 1) (exo (hp.objs.size + 1) C none)) ⟨(hp.push (PySem.W.kdv_tup us)).push (PySem.HandSPX.excO C hp.objs.size), g, dr, tk, os⟩ :=
    I1.laid (t' := tk) (a := hp.objs.size + 1) (o := exo (hp.objs.size + 1) C none) (h' := (hp.push (PySem.W.kdv_tup us)).push (PySem.HandSPX.excO C hp.objs.size)) kk hsz (exo_ok hget)
  have r2 : Vals (V.ref (hp.objs.size + 1) :: ys) (Value.ref (hp.objs.size + 1) :: bs) := .cons rfl rz
  have hus : us.length ≤ sizeLine := by
    rw [← Paired.length r1, sizeLine_eq]
    omega
  refine wpAny_call (call_made F.excBase_Exception hbm hC (PySem.W.looks_findIn I1.kIn iC) (fun self => PySem.W.bind_fn I1.kIn self tI) hus
    (codeAny_mono (F1.run _ X.stack _ _ ⟨Value.ref (hp.objs.size + 1) :: us, kw⟩ (Value.ref (hp.objs.size + 1) :: bs) _ _ (fun _ _ _ => False) (hr.make C us _) (I2.env0.make C us _) (hb _ _ I2.kIn) r2 hq) fun r s' hq' => ?_))
  cases r with
  | error er => exact hx pins σ _ _ er s' I2 hq'
  | ok fl =>
    cases fl with
    | ret u =>
      obtain ⟨v, H2, J, rv, ev, q2⟩ := I2.after hq'
      subst ev
      exact ⟨rv, .ref (hp.objs.size + 1), H2, J, rfl, q2⟩
    | next => exact False.elim hq'
    | brk => exact False.elim hq'
    | cont => exact False.elim hq'
theorem pe_mk (T : Ec X.K C) (iC : PySem.W.findIn X.K (.ref C) "__init__" = some (some (.ref fI))) (tI : PySem.W.typeIn X.K (.ref fI) = some (.type "function"))
    (F1 : FnOk X.prog X.w X.K X.mg X.base CX k fI fd ps sp) (hr : Room (k + 1) X.A) (hb : Binds X.K fd ps []) (hx : Passes CX X (fun _ _ _ => False)) (hg : Gl X x) (hm : X.mg x = some (.ref C)) (ha : PA X (e :: es) ta)
    (hdb : (x == ("__debug__" : Str)) = false := by decide) (he : starEach (e :: es) X.env = (false, eval e X.env) :: starEach es X.env := by rfl) (hpl : (backTo pos (starEach es X.env)).any (·.1) = false := by rfl) :
    PE X (.Call (.Name x p) (e :: es) [] pos) (tMk C sp ta) := by
  refine ⟨fun pins s σ H Q I h => ?_⟩
  refine wpAny_Call_Name_kw (ld_glob I hg hm ?_ hdb)
  refine PySem.W.callWith_K (h₀ := X.base) I.ok.mod.kin T.kep (thn (ha.run pos pins s σ H _ I h) fun us s1 ⟨vs, H1, I1, r1, hz, q1⟩ => ⟨I1.kIn, ?_⟩) he hpl
  have hl : (us.length + 1) = ps.length := by
    have n1 : ∃ a, H1 a = none := ⟨s1.heap.objs.size, I1.hok.fresh (Nat.le_refl _)⟩
    obtain ⟨a, n1⟩ := n1
    have z := F1.len _ _ _ _ (q1 a n1)
    rw [← z, ← r1.length]
    rfl
  exact run_mkG T iC tI F1 hr (fun s u KI => by
    have z := hb s (u :: us) KI (by rw [List.append_nil]; exact hl)
    rw [List.append_nil] at z
    exact z) hx I1 r1 r1 hz q1
theorem pe_mkK {tk : TA} (T : Ec X.K C) (iC : PySem.W.findIn X.K (.ref C) "__init__" = some (some (.ref fI))) (tI : PySem.W.typeIn X.K (.ref fI) = some (.type "function"))
    (F1 : FnOk X.prog X.w X.K X.mg X.base CX k fI fd ps sp) (hr : Room (k + 1) X.A) (hx : Passes CX X (fun _ _ _ => False)) (hg : Gl X x) (hm : X.mg x = some (.ref C)) (hkw : PK X kws tk) (g : {α : Type} → List α → List α)
    (hv : ∀ {zs : List V} {ws : List Value}, Vals zs ws → Vals (g zs) (g ws))
    (hb : ∀ (s : Shared) (u : Value) (ws : List Value), X.K.In s.heap → ws.length = ks.length → BindsTo s fd ⟨[u], ks.zip ws⟩ (ps.zip (u :: g ws)))
    (hall : (backToKw pos (keywordEach kws X.env)).all (·.1.isSome) = true := by rfl) (hks : (backToKw pos (keywordEach kws X.env)).filterMap (·.1) = ks := by rfl) (hdb : (x == ("__debug__" : Str)) = false := by decide)
    (hpl : ((backTo pos (starEach [] X.env)).any (·.1) || (backToKw pos (keywordEach kws X.env)).any (·.1.isNone)) = false := by rfl) :
    PE X (.Call (.Name x p) [] kws pos) (fun σ H Q => tk σ H fun zs H1 => zs.length = ks.length ∧ ∀ a, H1 a = none → sp (.ref a :: g zs) (upd H1 a (exo a C none)) (fun v H2 => v = .non ∧ Q (.ref a) H2) (fun _ _ _ => False)) := by
  refine ⟨fun pins s σ H Q I h => ?_⟩
  refine wpAny_Call_Name_kw (ld_glob I hg hm ?_ hdb)
  refine PySem.W.callWith_KW0 (h₀ := X.base) I.ok.mod.kin T.kep hall ?_ hpl
  refine thn (hkw.run pos pins s σ H _ I h) fun ws s2 ⟨zs, H2, I2, rz, l1, q2⟩ => ⟨I2.kIn, ?_⟩
  rw [hks]
  exact run_mkG T iC tI F1 hr (fun s u KI => hb s u ws KI (by rw [← rz.length]; exact l1)) hx I2 .nil (hv rz) (by simp) q2
end
end Ex

/-! Own exceptions as values: fields read, isinstance, C(); repr of data. -/
namespace Ex
open PySem PySem.Spec L2
open PyProof.Rows hiding St

/-- at a: an instance of C with its dict and these fields -/
def Fld (H : Hp) (a C : Addr) (fs : List (Str × V)) : Prop := ∃ d, H a = some (exo a C (some d)) ∧ H d = some (exd d fs)
/-- at a: an instance of the exception class C -/
def Obx (H : Hp) (a C : Addr) : Prop := (∃ fs, Fld H a C fs) ∨ H a = some (ExO (.ref C) a)
theorem Obx.inst {X : Cx} {pins : List (Addr × Obj)} {σ : St} {H : Hp} {s : Shared} {a C : Addr} (I : Inv X pins σ H s) (h : Obx H a C) : ∃ ox od, PySem.W.InstAt s.heap a ox C od := by
  rcases h with ⟨fs, d, ea, ed⟩ | ea
  · obtain ⟨t1, ho⟩ := exo_at I.hok ea
    obtain ⟨mA, hns, _⟩ := exd_at I.hok ed
    obtain ⟨od, ho2, _⟩ := lookIn_ns hns
    exact ⟨_, some od, ho, rfl, rfl, ho2⟩
  · obtain ⟨⟨oe, vs, ho, hz, hd, _⟩, _, _⟩ := I.hok a _ ea
    obtain ⟨h1, h2⟩ := hz
    refine ⟨oe, none, ho, h1, ?_, ?_⟩
    · unfold PySem.W.notCls
      rw [hd] <;> rfl
    · rw [h2] <;> exact True.intro
/-- what isinstance asks of the class -/
structure Ei (K : PySem.W.Frag) (C : Addr) : Prop where
  cls : (PySem.W.clsIn K C).isSome = true
  cla : PySem.W.findIn K (.ref C) "__class__" = some (some (.builtin "object.__class__"))
  spc : PySem.W.specialIn K (.builtin "object.__class__") "__get__" = some (some (.builtin "getset_descriptor.__get__"))
  tks : PySem.W.takesIn K (.builtin "object.__class__") = some true
  mro : PySem.W.mroIn K C (.type "object") = some true
def eiB (K : PySem.W.Frag) (C : Addr) : Bool := (PySem.W.clsIn K C).isSome && (decide (PySem.W.findIn K (.ref C) "__class__" = some (some (.builtin "object.__class__"))) && (decide (PySem.W.specialIn K (.builtin "object.__class__") "__get__" = some (some (.builtin "getset_descriptor.__get__"))) &&
  (decide (PySem.W.takesIn K (.builtin "object.__class__") = some true) && decide (PySem.W.mroIn K C (.type "object") = some true))))
theorem eiB_ok {K : PySem.W.Frag} {C : Addr} (h : eiB K C = true) : Ei K C := by
  unfold eiB at h
  simp only [Bool.and_eq_true, decide_eq_true_eq] at h
  obtain ⟨h1, h2, h3, h4, h5⟩ := h
  exact ⟨h1, h2, h3, h4, h5⟩
/-- isinstance(e, c), e such an object -/
def rIsx (K : PySem.W.Frag) : List V → Hp → VK → Prop := fun xs H Q => ∃ (a C : Addr) (c : V) (cv : Value) (b : Bool), xs = [.ref a, c] ∧ Obx H a C ∧ Ec K C ∧ Ei K C ∧ ClsV c cv ∧ PySem.W.kitOne K (.ref C) cv = some b ∧ Q (.bl b) H
def tFld (K : PySem.W.Frag) (n : Str) (te : TE) : TE := fun σ H Q => te σ H fun x H1 => ∃ (a C : Addr) (fs : List (Str × V)) (v : V), x = .ref a ∧ Ec K C ∧ PySem.W.findIn K (.ref C) n = some none ∧ Fld H1 a C fs ∧ fs.lookup n = some v ∧ Q v H1
section
variable {X : Cx}
theorem call_isx : CallR X (.builtin "isinstance") (rIsx X.K) := by
  intro pins s σ H xs us Q I r h
  obtain ⟨a, C, c, cv, b, rfl, ho, T, T2, k, e, q⟩ := h
  obtain ⟨u1, u2, rfl, r1, r2⟩ := vals2 r
  cases (show u1 = Value.ref a from r1)
  have e2 := k.eq r2
  subst e2
  obtain ⟨ox, od, J⟩ := ho.inst I
  exact PySem.W.kia_one (PySem.W.kitx_exc T2.cls T.gat T.gan T.sbB T2.cla T2.spc T2.tks T2.mro) I.kIn J e (fun z => nomatch z) fun tk => ⟨.bl b, H, I.tok tk, rfl, q⟩
theorem pe_fld {e : Expr} {te : TE} {pos : Pos} {n : Str} (he : PE X e te) (hb : attributeBase e n X.env (eval e X.env) = eval e X.env := by rfl) :
    PE X (.Attribute e n pos) (tFld X.K n te) := by
  refine ⟨fun pins s σ H Q I h => ?_⟩
  refine attr_of hb (thn (he.run pins s σ H _ I h) fun u s1 hh => ?_)
  obtain ⟨x, H1, I1, rx, a, C, fs, v, rfl, T, hno, ⟨dd, ea, ed⟩, l, q⟩ := hh
  obtain rfl : u = Value.ref a := rx
  obtain ⟨t1, ho⟩ := exo_at I1.hok ea
  obtain ⟨mA, hns, hr⟩ := exd_at I1.hok ed
  obtain ⟨od, ho2, hl⟩ := lookIn_ns hns
  obtain ⟨u, hu, ru⟩ := RelO.some_of (v := v) (o := mA n) (by rw [← l]; exact hr n)
  exact PySem.HandSPX.exc_get I1.kIn (⟨ho, rfl, rfl, ho2⟩ : PySem.W.InstAt s1.heap a _ C (some od)) T.gat T.gan T.sbB (PySem.W.findObj_own T.hdc hno rfl (by rw [hl, hu])) (handed_of ru) ⟨v, H1, I1.tok _, ru, q⟩
/-- C(), a class without __init__ -/
theorem pe_mk0 {C : Addr} {x : Str} {p pos : Pos} (q : PySem.W.excIn X.K C exT "Exception.__new__" = true) (gC : X.mg x = some (.ref C)) (kC : PySem.W.keepIn X.K (.ref C) = true) (hg : Gl X x)
    (hdb : (x == ("__debug__" : Str)) = false := by decide) : PE X (.Call (.Name x p) [] [] pos) (fun _ H Q => ∀ a, H a = none → Q (.ref a) (upd H a (ExO (.ref C) a))) := by
  refine ⟨fun pins s σ H Q I h => ?_⟩
  refine wpAny_Call_Name_kw (ld_glob I hg gC ?_ hdb)
  refine PySem.W.callWith_K0 I.kIn kC ?_
  obtain ⟨bm, N, nm, qn, bs, hdct, sn, sub, ab, col, dd, k0, k1, k2, k3, k5, mN, hC, hN, hni, T⟩ := exc_obj I.kIn q
  refine wpAny_call_exc_subT F.excBase_Exception T hC hN hni (fun h' a hm => ?_) (by show 0 ≤ sizeLine; exact Nat.zero_le _)
  have hn : H a = none := I.hok.gone hm.new
  obtain ⟨t, ht, _, _⟩ := hm.there
  exact ⟨.ref a, upd H a (ExO (.ref C) a), I.laidN hm.keeps hm.new hn (exO_ok ht ⟨rfl, rfl⟩ rfl rfl rfl (show 4 < 6 by decide)), rfl, h a hn⟩
end

/-! ### repr of data -/
def kD : Key → PyData
  | .inl i => .int i
  | .inr x => .str x
/-- the value is this data, in the tracked heap -/
inductive Dat (H : Hp) : V → PyData → Prop
  | non : Dat H .non .none
  | bl (b : Bool) : Dat H (.bl b) (.bool b)
  | int (i : Int) : Dat H (.int i) (.int i)
  | str (x : Str) : Dat H (.str x) (.str x)
  | lst {a : Addr} {xs : List V} {ds : List PyData} (e : H a = some (.lst xs)) (l : xs.length = ds.length) (h : ∀ (i : Nat) (v : V) (d : PyData), xs[i]? = some v → ds[i]? = some d → Dat H v d) : Dat H (.ref a) (.list ds)
  | tup {a : Addr} {xs : List V} {ds : List PyData} (e : H a = some (.tup xs)) (l : xs.length = ds.length) (h : ∀ (i : Nat) (v : V) (d : PyData), xs[i]? = some v → ds[i]? = some d → Dat H v d) : Dat H (.ref a) (.tuple ds)
  | dK {a : Addr} {kvs : List (Key × V)} {ds : List PyData} (e : H a = some (.dK kvs)) (l : kvs.length = ds.length) (h : ∀ (i : Nat) (v : V) (d : PyData), (kvs.map (·.2))[i]? = some v → ds[i]? = some d → Dat H v d) : Dat H (.ref a) (.dict ((kvs.map (kD ·.1)).zip ds))
def Gd (h : Heap) (a : Addr) : Prop := (∃ ob, h.get? a = some ob ∧ ob.cls = .type "list") ∨ (a == sysModules) = false
theorem readsAll_of {h : Heap} : ∀ {us : List Value} {ds : List PyData}, us.length = ds.length → (∀ (i : Nat) (u : Value) (d : PyData), us[i]? = some u → ds[i]? = some d → ∃ as, Reads h u d as ∧ ∀ a ∈ as, Gd h a) →
    ∃ as, ReadsAll h us ds as ∧ ∀ a ∈ as, Gd h a
  | [], [], _, _ => ⟨[], .nil, fun a z => by cases z⟩
  | u :: us, d :: ds, l, r => by
    obtain ⟨as, r1, h1⟩ := r 0 u d rfl rfl
    obtain ⟨bs, r2, h2⟩ := readsAll_of (us := us) (ds := ds) (by simpa using l) (fun i u d e1 e2 => r (i + 1) u d (by simpa using e1) (by simpa using e2))
    exact ⟨as ++ bs, .cons r1 r2, fun a ha => (List.mem_append.mp ha).elim (h1 a) (h2 a)⟩
  | [], _ :: _, l, _ => by cases l
  | _ :: _, [], l, _ => by cases l
theorem vals_at {xs : List V} {us : List Value} (r : Vals xs us) {i : Nat} {u : Value} (e : us[i]? = some u) : ∃ v, xs[i]? = some v ∧ RelV v u := by
  have hl := r.length
  have hi : i < xs.length := by
    rw [hl]
    exact (List.getElem?_eq_some_iff.mp e).1
  obtain ⟨u2, e2, rv⟩ := r.get (List.getElem?_eq_getElem hi)
  rw [e] at e2
  cases e2
  exact ⟨_, List.getElem?_eq_getElem hi, rv⟩
theorem pairs_reads {P : Program} {w : World} {h : Heap} : ∀ {es : List DictEntry} {kvs : List (Key × V)} {vs : List (Key × Value)} {ds : List PyData}, Pairs (mixKind P w) es vs → KV kvs vs → kvs.length = ds.length →
    (∀ (i : Nat) (v : V) (u : Value) (d : PyData), (kvs.map (·.2))[i]? = some v → RelV v u → ds[i]? = some d → ∃ as, Reads h u d as ∧ ∀ a ∈ as, Gd h a) →
    ∃ bs, ReadsAll h (es.map (·.key)) (kvs.map (kD ·.1)) [] ∧ ReadsAll h (es.map (·.val)) ds bs ∧ ∀ a ∈ bs, Gd h a
  | _, _, _, ds, .nil, .nil, l, _ => by
    cases ds with
    | nil => exact ⟨[], .nil, .nil, fun a z => by cases z⟩
    | cons d ds => cases l
  | _, _, _, ds, @Pairs.cons _ _ _ _ _ e kv es vs hk hv hp, .cons ⟨ek, rv⟩ kr, l, r => by
    cases ds with
    | nil => cases l
    | cons d ds =>
      obtain ⟨bs, h1, h2, h3⟩ := pairs_reads hp kr (by simpa using l) (fun i v u d e1 rr e2 => r (i + 1) v u d (by simpa using e1) rr (by simpa using e2))
      obtain ⟨as, r1, r2⟩ := r 0 _ _ d rfl rv rfl
      refine ⟨as ++ bs, ?_, ?_, fun a ha => (List.mem_append.mp ha).elim (r2 a) (h3 a)⟩
      · have k1 : Reads h e.key (kD kv.1) [] := by
          rcases keyIs_shape (show keyIs kv.1 e.key = true from hk) with ⟨i, t, e1, e2⟩ | ⟨x, t, e1, e2⟩
          · rw [e1, e2]
            exact .int i t
          · rw [e1, e2]
            exact .str x t
        rw [List.map_cons, List.map_cons, ek]
        exact ReadsAll.cons k1 h1
      · rw [List.map_cons, hv]
        exact .cons r1 h2
theorem zip_fst : ∀ {a b : List PyData}, a.length = b.length → (a.zip b).map (·.1) = a ∧ (a.zip b).map (·.2) = b
  | [], [], _ => ⟨rfl, rfl⟩
  | x :: a, y :: b, h => by
    obtain ⟨h1, h2⟩ := zip_fst (a := a) (b := b) (by simpa using h)
    exact ⟨by rw [List.zip_cons_cons, List.map_cons, h1], by rw [List.zip_cons_cons, List.map_cons, h2]⟩
  | [], _ :: _, h => by cases h
  | _ :: _, [], h => by cases h
theorem Dat.reads {X : Cx} {pins : List (Addr × Obj)} {σ : St} {H : Hp} {s : Shared} (I : Inv X pins σ H s) {v : V} {d : PyData} (h : Dat H v d) : ∀ {u : Value}, RelV v u → ∃ as, Reads s.heap u d as ∧ ∀ a ∈ as, Gd s.heap a := by
  induction h with
  | non => intro u r; cases (show u = Value.none from r); exact ⟨_, .none, fun a z => by cases z⟩
  | bl b => intro u r; cases (show u = Value.bool b from r); exact ⟨_, .bool b, fun a z => by cases z⟩
  | int i => intro u r; obtain ⟨t, q⟩ := (show ∃ t, u = Value.int i t from r); cases q; exact ⟨_, .int i t, fun a z => by cases z⟩
  | str x => intro u r; obtain ⟨t, q⟩ := (show ∃ t, u = Value.str x t from r); cases q; exact ⟨_, .str x t, fun a z => by cases z⟩
  | @lst a xs ds e l h ih =>
    intro u r
    cases (show u = Value.ref a from r)
    obtain ⟨_, its, n, rv, h1⟩ := (show ObjOk X.prog X.w H s.heap a (.lst xs) from I.hok a _ e)
    obtain ⟨as, r1, r2⟩ := readsAll_of (h := s.heap) (us := its) (ds := ds) (by rw [← rv.length]; exact l) (fun i u d e1 e2 => by
      obtain ⟨v, e3, rr⟩ := vals_at rv e1
      exact ih i v d e3 e2 rr)
    refine ⟨a :: as, .list h1 rfl rfl (by simpa using r1), fun b hb => ?_⟩
    rcases List.mem_cons.mp hb with rfl | hb
    · exact .inl ⟨_, h1, rfl⟩
    · exact r2 b hb
  | @tup a xs ds e l h ih =>
    intro u r
    cases (show u = Value.ref a from r)
    obtain ⟨_, its, rv, o, h1, h2, n, h3⟩ := (show ObjOk X.prog X.w H s.heap a (.tup xs) from I.hok a _ e)
    obtain ⟨as, r1, r2⟩ := readsAll_of (h := s.heap) (us := its) (ds := ds) (by rw [← rv.length]; exact l) (fun i u d e1 e2 => by
      obtain ⟨v, e3, rr⟩ := vals_at rv e1
      exact ih i v d e3 e2 rr)
    exact ⟨as, .tuple h1 h2 h3 (by simpa using r1), r2⟩
  | @dK a kvs ds e l h ih =>
    intro u r
    cases (show u = Value.ref a from r)
    obtain ⟨_, hsy, vs, kv, o, es, ep, h1, h2, h3, _, hp, _⟩ := (show ObjOk X.prog X.w H s.heap a (.dK kvs) from I.hok a _ e)
    obtain ⟨bs, r1, r2, r3⟩ := pairs_reads (h := s.heap) hp kv l (fun i v u d e1 rr e2 => ih i v d e1 e2 rr)
    obtain ⟨z1, z2⟩ := zip_fst (a := kvs.map (kD ·.1)) (b := ds) (by rw [List.length_map]; exact l)
    refine ⟨a :: [] ++ bs, .dict h1 h2.1 h3 (by rw [z1]; exact r1) (by rw [z2]; exact r2), fun b hb => ?_⟩
    rcases List.mem_cons.mp hb with rfl | hb
    · exact .inr hsy
    · exact r3 b hb
end Ex

/-! Promises that hold where no repr is under way; repr of data. -/
namespace Ex
open PySem PySem.Spec L2
open PyProof.Rows hiding St

structure FnG (P : Program) (w : World) (K : PySem.W.Frag) (mg : Str → Option Value) (base : Heap) (CX : CXT) (k : Nat) (f : Addr) (fd : FuncData) (ps : List Str) (sp : Sp) : Prop where
  len : ∀ vs H Q E, sp vs H Q E → vs.length = ps.length
  run : ∀ (A : Around), A.guards = some [] → ∀ (outer : List Env) (s : Shared) (H : Hp) (args : Args) (us : List Value) (vs : List V) (Q : VK) (E : XK), Room k A → Env0 P w K mg base A outer s H → BindsTo s fd args (ps.zip us) → Vals vs us → sp vs H Q E →
    codeAny (model P w) A (.call (.ref f) args) (CR CX outer P w H s Q E) s
theorem fnG_of {CX : CXT} {P : Program} {w : World} {K : PySem.W.Frag} {mg : Str → Option Value} {base : Heap} {k : Nat} {f : Addr} {name qual : Str} {params : Arguments} {body : List Stmt} {scope : Scope} {dV kV doc pm cdv ct oc : Value} {an od : Option Addr}
    {osl : Array (Option Value)} {N ps : List Str} {sp : Sp} (lk : K.lookup f = some ⟨oc, od, .func (PySem.W.fnOf name qual params body scope dV kV doc pm an cdv ct), osl⟩) (hcd : PySem.W.codeIn K cdv qual = true) (S : FnScope N ps scope)
    (len : ∀ vs H Q E, sp vs H Q E → vs.length = ps.length)
    (hbody : ∀ (A : Around), A.guards = some [] → ∀ (outer : List Env) (s : Shared) (H : Hp) (vs : List V) (Q : VK) (E : XK), Room k (A.deeper (envOfC qual scope s.heap.objs.size f cdv)) → sp vs H Q E →
      ∃ t, PSs (cxOf CX P w K mg base N qual scope f cdv A outer s H E) body t ∧ t { nx := fun _ H' => Q .non H', rt := Q } (start N vs) H) :
    FnG P w K mg base CX (k + 1) f (PySem.W.fnOf name qual params body scope dV kV doc pm an cdv ct) ps sp := by
  refine ⟨len, fun A hA outer s H args us vs Q E hr e0 hb r hsp => ?_⟩
  have hl := len _ _ _ _ hsp
  have KX : K.In s.heap := e0.mod.kin.keeps fun b o e => (e0.bs b o e).1
  have lim : s.heap.NoLimit := e0.mod.nolimit.keeps fun b o e => (e0.bs b o e).1
  have hkind : ∀ y ∈ ps.zip us, scope.names.lookup y.1 = some .local ∨ (scope.names.lookup y.1 = some .cell ∧ ((cellsFrom (s.heap.objs.size + 1) scope.names []).lookup y.1).isSome = true) := fun ⟨n, v⟩ hy => by
    rcases S.par n (List.of_mem_zip hy).1 with q | q
    · exact .inl q
    · exact .inr ⟨q, PySem.W.cellsFrom_some _ _ _ (.inl q)⟩
  refine codeAny_call_function hr.depth (KX _ _ lk) rfl S.co S.gen rfl (PySem.W.codeRec_of KX hcd) (hb _ _ _ _ ?_)
  refine wpAny_newFunctionEnv_cells S.kind hkind fun env he s1 x => ?_
  subst he
  refine ⟨lim.keeps x.toInCall.keep, codeAny_func ?_⟩
  obtain ⟨t, ht, hq⟩ := hbody A hA outer s H vs Q E (hr.deeper _) hsp
  have I : Inv (cxOf CX P w K mg base N qual scope f cdv A outer s H E) [] (start N vs) H s1 := inv_start S hr.hd e0 hl r x
  refine wpAny_mono (ht.run [] s1 (start N vs) H _ I hq) (fun fl s' hs => ?_) fun e s' hs => hs
  have fin : ∀ {σ' : St} {H' : Hp} {v : V} {u : Value}, Inv (cxOf CX P w K mg base N qual scope f cdv A outer s H E) [] σ' H' s' → RelV v u → Q v H' → CE outer P w H s Q u s' :=
    fun {σ' H' v u} J rv q => ⟨v, H', J.os, J.bare, J.base, J.hok, rv, q⟩
  cases fl with
  | ret u =>
    obtain ⟨v, σ', H', J, rv, q⟩ := hs
    exact fin J rv q
  | next =>
    obtain ⟨σ', H', J, q⟩ := hs
    exact fin (v := V.non) (u := Value.none) J rfl q
  | brk =>
    obtain ⟨_, _, _, q⟩ := hs
    exact False.elim q
  | cont =>
    obtain ⟨_, _, _, q⟩ := hs
    exact False.elim q
section
variable {P : Program} {w : World} {K : PySem.W.Frag} {mg : Str → Option Value} {base : Heap} {x qual : Str} {params : Arguments} {body : List Stmt} {scope : Scope} {dvs : List V} {kws : List (Str × V)} {f : Addr} {fd : FuncData}
theorem okG {CX : CXT} {N ps : List Str} {k : Nat} {sp : Sp} (F : L2.FunD K x qual params body scope dvs kws f fd) (S : FnScope N ps scope) (len : ∀ vs H Q E, sp vs H Q E → vs.length = ps.length)
    (hbody : ∀ (cdv : Value) (A : Around), A.guards = some [] → ∀ (outer : List Env) (s : Shared) (H : Hp) (vs : List V) (Q : VK) (E : XK), Room k (A.deeper (envOfC qual scope s.heap.objs.size f cdv)) → sp vs H Q E →
      ∃ t, PSs (cxOf CX P w K mg base N qual scope f cdv A outer s H E) body t ∧ t { nx := fun _ H' => Q .non H', rt := Q } (start N vs) H) : FnG P w K mg base CX (k + 1) f fd ps sp := by
  obtain ⟨oc, od, dV, kV, doc, pm, an, cdv, ct, osl, rfl, lk, hcd, _, _⟩ := F.ex
  exact fnG_of lk hcd S len fun A hA outer s H vs Q E hr hsp => hbody cdv A hA outer s H vs Q E hr hsp
end
section
variable {X : Cx} {CX : CXT} {k : Nat} {f C : Addr} {fd : FuncData} {ps : List Str} {sp : Sp} {ds : List Value} {dvs : List V} {E : XK} {x m : Str} {p pos apos : Pos} {e o : Expr} {es : List Expr} {t : TA} {te : TE}
theorem run_fnG {pins : List (Addr × Obj)} {σ : St} {H : Hp} {s : Shared} {Q : VK} {us : List Value} {vs : List V} (hA : X.A.guards = some []) (F : FnG X.prog X.w X.K X.mg X.base CX k f fd ps sp) (hr : Room k X.A) (hb : Binds X.K fd ps ds) (hd : Vals dvs ds) (hx : Passes CX X E)
    (I : Inv X pins σ H s) (r : Vals vs us) (h : sp (vs ++ dvs) H Q E) : wpAny (model X.prog X.w) X.A (call (.ref f) us) (EP X pins σ Q) X.xe s := by
  have r2 : Vals (vs ++ dvs) (us ++ ds) := r.append hd
  have hl : (us ++ ds).length = ps.length := by rw [← r2.length]; exact F.len _ _ _ _ h
  refine wpAny_call (codeAny_mono (F.run X.A hA X.stack s H ⟨us, []⟩ (us ++ ds) (vs ++ dvs) Q E hr I.env0 (hb s us I.kIn hl) r2 h) fun r s' hq => ?_)
  cases r with
  | error e => exact hx pins σ H s e s' I hq
  | ok fl =>
    cases fl with
    | ret u => exact I.after hq
    | next => exact False.elim hq
    | brk => exact False.elim hq
    | cont => exact False.elim hq

theorem pe_callG (hA : X.A.guards = some []) (F : FnG X.prog X.w X.K X.mg X.base CX k f fd ps sp) (hr : Room k X.A) (hg : Gl X x) (hm : X.mg x = some (.ref f)) (hk : PySem.W.keepIn X.K (.ref f) = true) (hb : Binds X.K fd ps ds) (hd : Vals dvs ds) (hx : Passes CX X E)
    (ha : PA X (e :: es) t) (hdb : (x == ("__debug__" : Str)) = false := by decide) (he : starEach (e :: es) X.env = (false, eval e X.env) :: starEach es X.env := by rfl) (hpl : (backTo pos (starEach es X.env)).any (·.1) = false := by rfl) :
    PE X (.Call (.Name x p) (e :: es) [] pos) (tCall sp dvs E t) := by
  refine ⟨fun pins s σ H Q I h => ?_⟩
  refine wpAny_Call_Name_kw (ld_glob I hg hm ?_ hdb)
  refine PySem.W.callWith_K (h₀ := X.base) I.ok.mod.kin hk (thn (ha.run pos pins s σ H _ I h) fun us s1 ⟨vs, H1, I1, r, q⟩ => ⟨I1.kIn, ?_⟩) he hpl
  exact run_fnG hA F hr hb hd hx I1 r q
end
theorem lawG_call {P : Program} {w : World} {K : PySem.W.Frag} {mg mb : Str → Option Value} {CX : CXT} {k : Nat} {fa a : Addr} {fd : FuncData} {x : Str} {sp : Sp} {s₁ : Shared} {vs : List Value} {ns : List Int}
    (KX : K.In s₁.heap) (hns : s₁.heap.Ns mainGlobals mg) (hb : s₁.heap.Ns builtinsNs mb) (hbb : ∀ x : Str, x ≠ "__name__" → mb x = bootBuiltins x) (hlim : s₁.heap.NoLimit) (hg : s₁.gens = #[])
    (ha : s₁.heap.get? a = some { cls := .type "list", data := .seq vs.toArray }) (hi : IntsAre vs ns) (hl : ns.length ≤ sizeLine) (hr : Room k callerA)
    (F : ∀ base : Heap, K.In base → base.Ns mainGlobals mg → FnG P w K mg base CX k fa fd [x] sp) (hbind : ∀ (s : Shared) (u : Value), BindsTo s fd ⟨[u], []⟩ [(x, u)])
    (hsp : ∀ H : Hp, Only H → SqL K H a (ns.map V.int) → sp [.ref a] H (fun v _ => v = .bl true) fun _ _ _ => False)
    (hCX : ∀ H e s', CX [] H s₁ (fun _ _ _ => False) e s' → False) :
    codeAny (model P w) callerA (.call (.ref fa) ⟨[.ref a], []⟩) (fun r s' => r = .ok (.ret (.bool true)) ∧ OldK s₁.heap s'.heap ∧ s'.os = s₁.os ∧ AllBare s'.gens) s₁ := by
  have rv := vals_ints hi
  have lenV := hi.length
  -- from an abstract heap in which nothing but the script may be tracked
  have core : ∀ H : Hp, Only H → SqL K H a (ns.map V.int) → HOk P w H s₁.heap → (∀ b, H b ≠ none → b = a) → (H a ≠ none → K.lookup a = none) →
      codeAny (model P w) callerA (.call (.ref fa) ⟨[.ref a], []⟩) (fun r s' => r = .ok (.ret (.bool true)) ∧ OldK s₁.heap s'.heap ∧ s'.os = s₁.os ∧ AllBare s'.gens) s₁ := by
    intro H hO hS hok hA hK
    have base_of : ∀ {b : Addr} {o : Obj}, s₁.heap.get? b = some o → H b = none → (hidT s₁.heap H).get? b = some o := fun e n => hidT_get e n
    have noA : ∀ {b : Addr} {o : Obj} {es : Array DictEntry} {ep : Nat}, s₁.heap.get? b = some o → o.data = .dict es ep → H b = none := fun {b o es ep} e d => by
      cases q : H b with
      | none => rfl
      | some u =>
        have e' : b = a := hA b (by rw [q]; simp)
        subst e'
        rw [ha] at e; cases e
        have d' : Data.seq vs.toArray _ = Data.dict es ep := d
        cases d'
    have nsK : ∀ {b : Addr} {m : Str → Option Value}, s₁.heap.Ns b m → (hidT s₁.heap H).Ns b m := fun {b m} ⟨o, es, ep, e, d, r⟩ => ⟨o, es, ep, base_of e (noA e d), d, r⟩
    have hKb : K.In (hidT s₁.heap H) := fun b o e => base_of (KX b o e) (by
      cases q : H b with
      | none => rfl
      | some u =>
        have e' : b = a := hA b (by rw [q]; simp)
        subst e'
        rw [hK (by rw [q]; simp)] at e; cases e)
    have hM : Mod K mg (hidT s₁.heap H) := ⟨hKb, nsK hns, ⟨mb, nsK hb, hbb⟩, let ⟨mc, h1, h2⟩ := hlim; ⟨mc, nsK h1, h2⟩⟩
    have e0 : Env0 P w K mg (hidT s₁.heap H) callerA [] s₁ H := ⟨rfl, hM, fun b o e => of_hidT e, Nat.le_of_eq (hidT_size _ _), trivial, fun b hb => absurd (show b ∈ ([] : List Addr) from hb) (by simp), hok, .of_eq hg⟩
    refine codeAny_mono ((F _ hKb (nsK hns)).run callerA rfl [] s₁ H ⟨[.ref a], []⟩ [.ref a] [.ref a] _ _ hr e0 (hbind s₁ (.ref a)) (.cons rfl .nil) (hsp H hO hS)) fun r s' h => ?_
    cases r with
    | error e => exact (hCX H e s' h).elim
    | ok fl =>
      cases fl with
      | next => exact False.elim h
      | brk => exact False.elim h
      | cont => exact False.elim h
      | ret u =>
        obtain ⟨v, H', os, bare, un, hok', r', q⟩ := h
        have q' : v = .bl true := q
        subst q'
        obtain rfl : u = Value.bool true := r'
        refine ⟨rfl, OldK.of_keep fun b o e => ?_, os, bare⟩
        cases q : H b with
        | none => exact un.keep b o e q (by intro z; exact absurd (show b ∈ ([] : List Addr) from z) (by simp)) (by simp)
        | some u =>
          rcases hO b with z | ⟨ob, xs, z⟩
          · rw [q] at z; cases z
          · have z2 := un.frzs b ob _ z
            obtain ⟨e1, _⟩ := hok b _ z
            obtain ⟨e2, _⟩ := hok' b _ z2
            rw [e] at e1; cases e1
            exact e2
  cases hk : K.lookup a with
  | some o =>
    -- the script is one of the module's own objects
    have e := KX a o hk
    rw [ha] at e
    cases e
    refine core (fun _ => none) (fun _ => .inl rfl) (.inr ⟨_, vs.toArray, _, hk, rfl, rfl, rfl, by rw [List.size_toArray, lenV]; exact hl, by simpa using rv⟩) (fun b u z => by have z' : (none : Option HO) = some u := z; cases z') (fun b z => absurd rfl z) fun z => absurd rfl z
  | none =>
    refine core (fun b => if b = a then some (.frz { cls := .type "list", data := .seq vs.toArray } (.lst (ns.map V.int))) else none) (fun b => ?_) (.inl (.inr ⟨{ cls := .type "list", data := .seq vs.toArray }, if_pos rfl⟩)) (fun b u z => ?_) (fun b z => ?_) fun _ => hk
    · by_cases hb : b = a
      · exact .inr ⟨_, _, if_pos hb⟩
      · exact .inl (if_neg hb)
    · by_cases hb : b = a
      · have z' := (if_pos hb).symm.trans z
        cases z'
        subst hb
        exact ⟨ha, by rw [List.length_map]; exact hl, vs, _, rv, ha⟩
      · have z' := (if_neg hb).symm.trans z
        cases z'
    · by_cases hb : b = a
      · exact hb
      · exact absurd (if_neg hb) z
theorem walkG {l : PySem.W.OpenLaw} {n k : Nat} {q : Program} {loose : List Str} {XP : (Str → Option Value) → Heap → Prop} {YP : World → Heap → Prop} {d : DefRec} {CX : CXT} {x : Str}
    (hn : l.most = some n) (hn2 : n ≤ sizeLine) (hdf : d.params.defaults = []) (hr : Room k callerA)
    (F : ∀ (w : World) (mg : Str → Option Value) (fa : Addr) (h : Heap), YP w h → h.Ns mainGlobals mg → mg d.name = some (.ref fa) →
      ∃ (K : PySem.W.Frag) (fd : FuncData) (sp : Sp), K.In h ∧ (∀ (s : Shared) (u : Value), BindsTo s fd ⟨[u], []⟩ [(x, u)]) ∧
        (∀ (H : Hp) (a : Addr) (ns : List Int), ns.length ≤ n → Only H → SqL K H a (ns.map V.int) → sp [.ref a] H (fun v _ => v = .bl true) fun _ _ _ => False) ∧
        ∀ base : Heap, K.In base → base.Ns mainGlobals mg → FnG l.prog w K mg base CX k fa fd [x] sp)
    (hCX : ∀ (H : Hp) (s : Shared) (e : Value) (s' : Shared), CX [] H s (fun _ _ _ => False) e s' → False) :
    PySem.W.WalkO q loose XP YP l.row.toRowW d [] (fun f vs => PySem.call f vs) := by
  refine Att.attach_call hn hdf fun w s₀ s₁ mg mb fa o pm cd doc a vs ns G Y ho hd hcd hmg hobj hints hlen hg => ?_
  obtain ⟨K, fd, sp, KX, hb, hsp, hF⟩ := F w mg fa _ Y G.T.g hmg
  exact lawG_call KX G.T.g G.T.b G.T.builtins G.T.nolimit hg hobj hints (Nat.le_trans hlen hn2) hr hF hb (fun H hO hS => hsp H a ns hlen hO hS) fun H e s' => hCX H s₁ e s'
/-! ### repr -/
def shorts : PyData → Bool := fun d => decide (d.shown.length ≤ sizeLine) && (d.showable && decide (d.depth ≤ 50))
def rRep : List V → Hp → VK → Prop := fun xs H Q => ∃ (a : Addr) (d : PyData), xs = [.ref a] ∧ Dat H (.ref a) d ∧ d.showable = true ∧ d.depth ≤ 50 ∧ d.shown.length ≤ sizeLine ∧ Q (.str d.shown) H
theorem call_rep {X : Cx} {k : Nat} (hS : ∃ o, X.K.lookup sysModules = some o ∧ o.cls = .type "dict") (hA : X.A.guards = some []) (hr : Room k X.A) : CallR X (.builtin "repr") rRep := by
  intro pins s σ H xs us Q I r h
  obtain ⟨a, d, rfl, hd, hs, hdp, hz, q⟩ := h
  obtain ⟨u, rfl, ru⟩ := vals1 r
  cases (show u = Value.ref a from ru)
  obtain ⟨as, r1, r2⟩ := hd.reads I ru
  have hu := hr.un
  refine PySem.repr_of_reads' r1 hs (fun _ z => ?_) hA (by omega) (fun _ _ e => e) (fun h' u tk hk => ⟨.str d.shown, H, I.kept (t' := tk) hk, ⟨u, rfl⟩, q⟩) hz
  rcases r2 _ z with ⟨ob, h1, h2⟩ | h1
  · obtain ⟨o, e1, e2⟩ := hS
    rw [I.kIn _ _ e1] at h1
    cases h1
    rw [e2] at h2
    injection h2 with z2
    exact absurd z2 (by decide)
  · exact absurd h1 (by simp)
end Ex

/-! k01's draws. -/
namespace Ex
open PySem PySem.Spec L2
open PyProof.Rows hiding St

def top (i : Nat) : Stmt := PySem.Challenge.pw_dutytongue_k01_errors_keep_what_is_seale.main.body.getD i (.Pass ⟨0, 0, 0, 0⟩)
abbrev sCall : Stmt := top 25
abbrev sOne : Stmt := top 26
abbrev sLike : Stmt := top 27
abbrev FnP (K : PySem.W.Frag) (x : Str) (st : Stmt) (f : Addr) (fd : FuncData) : Prop := FunD K x x (defArgs st) (defBody st) (defScope st) [] [] f fd
abbrev kRoll : Key := .inr "roll"
abbrev kHeap : Key := .inr "heap"
def XtB (H H' : Hp) (c : Addr) : Prop := ∀ b o, b ≠ c → H b = some o → H' b = some o
/-- the state of the draws -/
structure Ct (H : Hp) (c : Addr) (r h : Int) : Prop where
  at_ : H c = some (.dK [(kRoll, .int r), (kHeap, .int h)])
  r0 : 0 ≤ r
  r1 : r < 2305843009213693951
  h0 : 0 ≤ h
def spCall : Sp := fun vs H Q _ => ∃ c m r h, vs = [.ref c, .int m] ∧ 1 ≤ m ∧ m < 1000 ∧ Ct H c r h ∧ ∀ n r' h' H', 0 ≤ n → n < m → XtB H H' c → Ct H' c r' h' → Q (.int n) H'
def tPut : TSet := fun o i v H Q => ∃ a H', o = .ref a ∧ DPut H a i v H' ∧ Q H'
theorem set_dict {X : Cx} (hu : X.A.units + 1 < cLine) : PSet X tPut := by
  intro pins s σ H o i v ov iv u Q I ro ri rv h
  obtain ⟨a, H', rfl, g, q⟩ := h
  obtain rfl : ov = Value.ref a := ro
  exact d_setItem hu I g ri rv fun s4 I4 => ⟨H', I4, q⟩
section
variable {P : Program} {w : World} {K : PySem.W.Frag} {mg : Str → Option Value} {base : Heap} {f : Addr} {fd : FuncData}
theorem scCall : FnScope ["court", "many", "number"] ["court", "many"] (defScope sCall) := ⟨rfl, rfl, rfl, by decide +kernel, rfl, by decide +kernel, by decide +kernel⟩
theorem ok_call (F : FnP K "_law_call" sCall f fd) (gD : mg "divmod" = none) (gI : mg "int" = none) : FnOk P w K mg base CX0 1 f fd ["court", "many"] spCall := by
  refine F.ok scCall (fun vs H Q E h => ?_) (fun cdv A outer s H vs Q E hr h => ?_)
  · obtain ⟨c, m, r, h, rfl, _⟩ := h
    rfl
  · have hu := hu_of hr
    have nd := scCall.nd
    refine ⟨_, pss_cons (ps_if (pt_cmpR op_gt (pe_dget hu (pv 0) pe_str (fun _ _ => rfl)) pe_int (nomark _))
        (pss_cons (ps_asg (pe_callB call_divmod rfl gD (by decide +kernel) (pa_cons (pe_dget hu (pv 0) pe_str (fun _ _ => rfl)) (pa_cons (pv 1) pa_nil)))
            (pg_tup (by rfl) (pgs_cons (pg_sub (pv 0) pe_str (set_dict hu)) (pgs_cons (pg_name (i := 2) nd rfl (Or.inl rfl)) pgs_nil))))
          (pss_one (ps_ret (pv 2)))) pss_nil)
      (pss_cons (ps_dput hu (pv 0) pe_str (pe_op op_mod (pe_callTy call_int1 rfl gI (by decide +kernel) (pa_cons (pe_op op_add (pe_op op_mul (pe_dget hu (pv 0) pe_str (fun _ _ => rfl)) pe_int) pe_int) pa_nil)) pe_int) rfl)
        (pss_one (ps_ret (pe_op op_mod (pe_callTy call_int1 rfl gI (by decide +kernel) (pa_cons (pe_op op_fdiv (pe_dget hu (pv 0) pe_str (fun _ _ => rfl)) pe_int) pa_nil)) (pv 1))))), ?_⟩
    obtain ⟨c, m, r, hh, rfl, m1, m2, C, q⟩ := h
    have gR : DGet H c (kV kRoll) (some (.int r)) := DGet.k (k := kRoll) C.at_
    have gH : DGet H c (kV kHeap) (some (.int hh)) := DGet.k (k := kHeap) C.at_
    refine ⟨_, rfl, c, _, rfl, gH, _, _, rfl, rfl, ?_⟩
    by_cases hp : 0 < hh
    · refine ⟨true, by show V.bl (decide (0 < hh)) = _; rw [decide_eq_true hp], ?_⟩
      show (if true = true then _ else _)
      rw [if_pos rfl]
      refine ⟨_, rfl, c, _, rfl, gH, _, rfl, _, _, rfl, ⟨by omega, by omega⟩, fun p np => ?_⟩
      have npc : p ≠ c := fun z => by
        rw [z, C.at_] at np
        cases np
      have C1 : (upd H p (.tup [.int (hh / m), .int (hh % m)])) c = some (.dK [(kRoll, .int r), (kHeap, .int hh)]) := by rw [upd_ne (Ne.symm npc)]; exact C.at_
      refine ⟨p, _, rfl, SqT.of upd_same, rfl, _, _, rfl, _, rfl, c, _, rfl, DPut.k (k := kHeap) C1 (by show 2 < sizeLine; decide), _, _, rfl, rfl, _, rfl, ?_⟩
      refine q (hh % m) r (hh / m) _ (Int.emod_nonneg _ (by omega)) (Int.emod_lt_of_pos _ (by omega)) (fun b o hb e => ?_) ⟨upd_same, C.r0, C.r1, Int.ediv_nonneg C.h0 (by omega)⟩
      rw [upd_ne hb, upd_ne (ne_of_none e np)]
      exact e
    · refine ⟨false, by show V.bl (decide (0 < hh)) = _; rw [decide_eq_false hp], ?_⟩
      show (if false = true then _ else _)
      rw [if_neg Bool.false_ne_true]
      have b0 := C.r0
      have b1 := C.r1
      refine ⟨_, rfl, c, _, rfl, gR, _, _, rfl, rfl, .inl ⟨by omega, by omega⟩, _, _, rfl, rfl, .inl ⟨_, rfl, _, _, rfl, rfl, (by show (0 : Int) < 2305843009213693951; decide), ?_⟩⟩
      refine ⟨_, rfl, c, _, rfl, DPut.k (k := kRoll) C.at_ (by show 2 < sizeLine; decide), ?_⟩
      have C2 : (upd H c (.dK (putK [(kRoll, .int r), (kHeap, .int hh)] kRoll (.int ((r * 6364136223846793005 + 1442695040888963407) % 2305843009213693951))))) c = some (.dK [(kRoll, .int ((r * 6364136223846793005 + 1442695040888963407) % 2305843009213693951)), (kHeap, .int hh)]) := upd_same
      refine ⟨_, rfl, c, _, rfl, DGet.k (k := kRoll) C2, _, _, rfl, rfl, ⟨by decide, by decide⟩, .inl ⟨_, rfl, _, rfl, _, _, rfl, rfl, by omega, ?_⟩⟩
      refine q _ _ hh _ (Int.emod_nonneg _ (by omega)) (Int.emod_lt_of_pos _ (by omega)) (fun b o hb e => ?_) ⟨C2, Int.emod_nonneg _ (by decide), Int.emod_lt_of_pos _ (by decide), C.h0⟩
      rw [upd_ne hb]
      exact e
def spOne : Sp := fun vs H Q _ => ∃ c l xs r h, vs = [.ref c, .ref l] ∧ H l = some (.lst xs) ∧ 1 ≤ xs.length ∧ xs.length < 1000 ∧ Ct H c r h ∧ ∀ (i : Nat) v r' h' H', xs[i]? = some v → XtB H H' c → Ct H' c r' h' → Q v H'
theorem scOne : FnScope ["court", "some"] ["court", "some"] (defScope sOne) := ⟨rfl, rfl, rfl, by decide +kernel, rfl, by decide +kernel, by decide +kernel⟩
theorem ok_one {fC : Addr} {fdC : FuncData} (F : FnP K "_law_one_of" sOne f fd) (FC : FnP K "_law_call" sCall fC fdC) (gC : mg "_law_call" = some (.ref fC)) (gD : mg "divmod" = none) (gI : mg "int" = none) (gL : mg "len" = none) : FnOk P w K mg base CX0 2 f fd ["court", "some"] spOne := by
  have GC : FnOk P w K mg base CX0 1 fC fdC ["court", "many"] spCall := ok_call FC gD gI
  have bC : Binds K fdC ["court", "many"] [] := FC.bindsN fun _ _ _ _ _ _ us hl => match us, hl with | [_, _], _ => rfl
  refine F.ok scOne (fun vs H Q E h => ?_) (fun cdv A outer s H vs Q E hr h => ?_)
  · obtain ⟨c, l, xs, r, h, rfl, _⟩ := h
    rfl
  · refine ⟨_, pss_one (ps_ret (pe_ix ix_list (pv 1) (pe_call GC hr rfl gC FC.kp bC .nil pass0 (pa_cons (pv 0) (pa_cons (pe_callB call_len rfl gL boot_len (pa_cons (pv 1) pa_nil)) pa_nil))) (fun _ _ => rfl))), ?_⟩
    obtain ⟨c, l, xs, r, h, rfl, hl, n1, n2, C, q⟩ := h
    refine ⟨_, rfl, _, rfl, _, rfl, _, xs.length, rfl, .inl ⟨_, SqL.of hl, rfl⟩, c, (xs.length : Int), r, h, rfl, by omega, by omega, C, fun n r' h' H' n0 n3 X C' => ?_⟩
    have hlc : l ≠ c := fun z => by
      rw [z, C.at_] at hl
      cases hl
    have hi : n.toNat < xs.length := by omega
    obtain ⟨v, hv⟩ : ∃ v, xs[n.toNat]? = some v := ⟨_, List.getElem?_eq_getElem hi⟩
    obtain ⟨k, rfl⟩ := Int.eq_ofNat_of_zero_le n0
    refine ⟨l, xs, _, v, rfl, rfl, SqL.of (X _ _ hlc hl), atI_nat (by simpa using hv), q k v r' h' H' (by simpa using hv) X C'⟩
end
end Ex

/-! k01: the state of the draws is made. -/
namespace Ex
open PySem PySem.Spec L2
open PyProof.Rows hiding St

def XtN (H H' : Hp) : Prop := ∀ b o, H b = some o → H' b = some o
theorem XtN.refl {H : Hp} : XtN H H := fun _ _ e => e
theorem XtN.trans {H H' H2 : Hp} (a : XtN H H') (b : XtN H' H2) : XtN H H2 := fun x o e => b x o (a x o e)
theorem XtN.new {H : Hp} {p : Addr} {o : HO} (n : H p = none) : XtN H (upd H p o) := fun b u e => by
  rw [upd_ne (ne_of_none e n)]
  exact e
theorem XtN.sql {K : PySem.W.Frag} {H H' : Hp} (x : XtN H H') {a : Addr} {xs : List V} (h : SqL K H a xs) : SqL K H' a xs := by
  rcases h with (h | ⟨o, h⟩) | h
  · exact .inl (.inl (x _ _ h))
  · exact .inl (.inr ⟨o, x _ _ h⟩)
  · exact .inr h
theorem lc_in {K : PySem.W.Frag} {g : TG} {tt : TT} {te : TE} {vs : List Nat} {σ : St} {H : Hp} {Q : VK} {a : Addr} {xs : List V} (fx : V → Option V) (hS : SqL K H a xs) (hz : xs.length < sizeLine)
    (step : ∀ x ∈ xs, ∀ (H' : Hp) (C : V → Hp → Prop) (Nx : Hp → Prop), XtN H H' → (fx x = none → Nx H') → (∀ y, fx x = some y → C y H') → g x (wipe σ vs) H' fun σ2 H2 => wipe σ2 vs = wipe σ vs ∧ tt σ2 H2 fun b H3 => if b = true then te σ2 H3 C else Nx H3)
    (hq : ∀ D, H D = none → Q (.ref D) (upd H D (.lst (xs.filterMap fx)))) :
    ∀ D, H D = none → ∃ W : Nat → Nat → Hp → Prop, (∃ m, W 0 m (upd H D (.lst []))) ∧ ∀ i m H, W i m H →
      ((Itl K a).stop i H ∧ Q (.ref D) H) ∨ ((Itl K a).go i H ∧ ∃ Nx : Hp → Prop, (∀ H', Nx H' → ∃ m', m' < m ∧ W (i + 1) m' H') ∧ ∀ x H', (Itl K a).yld i H x H' → g x (wipe σ vs) H' fun σ2 H2 => wipe σ2 vs = wipe σ vs ∧ tt σ2 H2 fun b H3 =>
        if b = true then te σ2 H3 fun y H4 => ∃ acc, H4 D = some (.lst acc) ∧ acc.length < sizeLine ∧ Nx (upd H4 D (.lst (acc ++ [y]))) else Nx H3) := by
  refine fun D hD => ⟨fun i m H' => H' = upd H D (.lst ((xs.take i).filterMap fx)) ∧ i + m = xs.length, ⟨xs.length, by simp, by omega⟩, fun i m H' hW => ?_⟩
  obtain ⟨rfl, hm⟩ := hW
  have X : XtN H (upd H D (.lst ((xs.take i).filterMap fx))) := .new hD
  by_cases hi : i < xs.length
  · right
    refine ⟨⟨xs, xs[i], X.sql hS, List.getElem?_eq_getElem hi⟩, fun H' => H' = upd H D (.lst ((xs.take (i + 1)).filterMap fx)), fun H' e => ⟨m - 1, by omega, e, by omega⟩, fun x H' hy => ?_⟩
    obtain ⟨rfl, hx⟩ := hy
    have e := hx xs (X.sql hS)
    rw [List.getElem?_eq_getElem hi] at e
    cases e
    have eT : (xs.take (i + 1)).filterMap fx = (xs.take i).filterMap fx ++ (fx xs[i]).toList := by
      rw [List.take_succ, List.getElem?_eq_getElem hi, List.filterMap_append]
      show _ ++ List.filterMap fx [xs[i]] = _
      cases hf : fx xs[i] with
      | none => simp [hf]
      | some y => simp [hf]
    refine step xs[i] (List.getElem_mem hi) _ _ _ X (fun e0 => ?_) (fun y e1 => ?_)
    · rw [eT, e0]
      simp
    · refine ⟨_, upd_same, ?_, ?_⟩
      · have h1 : ((xs.take i).filterMap fx).length ≤ (xs.take i).length := List.length_filterMap_le ..
        rw [List.length_take] at h1
        omega
      · rw [eT, e1, upd_upd]
        rfl
  · left
    refine ⟨⟨xs, X.sql hS, by omega⟩, ?_⟩
    rw [List.take_of_length_le (by omega)]
    exact hq D hD

theorem lc_map {K : PySem.W.Frag} {wi : TI} {g : TG} {tt : TT} {te : TE} {vs : List Nat} {σ : St} {H : Hp} {Q : VK} {xs : List V} (fx : V → Option V) (P : Addr → Hp → Prop) (hP : ∀ a H1, P a H1 → SqL K H1 a xs) (hz : xs.length < sizeLine)
    (hw : ∀ R : It → Hp → Prop, (∀ a H1, P a H1 → R (Itl K a) H1) → wi σ H R)
    (step : ∀ a H1, P a H1 → ∀ x ∈ xs, ∀ (H' : Hp) (C : V → Hp → Prop) (Nx : Hp → Prop), XtN H1 H' → (fx x = none → Nx H') → (∀ y, fx x = some y → C y H') → g x (wipe σ vs) H' fun σ2 H2 => wipe σ2 vs = wipe σ vs ∧ tt σ2 H2 fun b H3 => if b = true then te σ2 H3 C else Nx H3)
    (hq : ∀ a H1, P a H1 → ∀ D, H1 D = none → Q (.ref D) (upd H1 D (.lst (xs.filterMap fx)))) : tLc wi g tt te vs σ H Q :=
  hw _ fun a H1 p => lc_in (Q := Q) fx (hP a H1 p) hz (step a H1 p) (hq a H1 p)

abbrev sCourt : Stmt := top 24
/-- an int of the script -/
def IntV (v : V) : Prop := ∃ i : Int, v = .int i
def spCourt (K : PySem.W.Frag) : Sp := fun vs H Q _ => ∃ (a : Addr) (k : Nat) (ns : List Int), vs = [.ref a, .int k] ∧ k < 2 ∧ SqL K H a (ns.map V.int) ∧ ns.length ≤ 1000 ∧ ∀ c r h H', XtN H H' → H c = none → Ct H' c r h → Q (.ref c) H'
section
variable {P : Program} {w : World} {K : PySem.W.Frag} {mg : Str → Option Value} {base : Heap} {f : Addr} {fd : FuncData}
theorem scCourt : FnScope ["cells", "seat", "roll", "nth", "cell", "own"] ["cells", "seat"] (defScope sCourt) := ⟨rfl, rfl, rfl, by decide +kernel, rfl, by decide +kernel, by decide +kernel⟩
abbrev fOwn : V → Option V := fun v => match v with
  | .int i => if 10 ^ 13 < (if i < 0 then -i else i) then some (.int (if i < 0 then -i else i)) else none
  | _ => none
theorem ok_court (F : FnP K "_law_court" sCourt f fd) (gE : mg "enumerate" = none) (gL : mg "list" = none) (gI : mg "int" = none) (gA : mg "abs" = none) : FnOk P w K mg base CX0 1 f fd ["cells", "seat"] (spCourt K) := by
  refine F.ok scCourt (fun vs H Q E h => ?_) (fun cdv A outer s H vs Q E hr h => ?_)
  · obtain ⟨a, k, ns, rfl, _⟩ := h
    rfl
  · have hu := hu_of hr
    have hu64 := hr.units
    have nd := scCourt.nd
    refine ⟨_, pss_cons (ps_set (i := 2) nd rfl (Or.inl rfl) (pe_op op_add pe_int (pe_op op_mul pe_int (pv 1))))
      (pss_cons (ps_for (passes_of rfl) (by rfl) (pi_enum rfl gE (pa_cons (pe_slice sl_list (pe_callTy call_list_of rfl gL (by decide +kernel) (pa_cons (pv 0) pa_nil)) po_none (po_some pe_int)) pa_nil))
          (pg_tup (by rfl) (pgs_cons (pg_name (i := 3) nd rfl (Or.inl rfl)) (pgs_cons (pg_name (i := 4) nd rfl (Or.inl rfl)) pgs_nil)))
          (pss_one (ps_set (i := 2) nd rfl (Or.inl rfl) (pe_op op_mod (pe_callTy call_int1 rfl gI (by decide +kernel) (pa_cons (pe_op op_add (pe_op op_add (pe_op op_mul (pe_op op_add (pv 2) (pe_op op_mod (pe_callTy call_int1 rfl gI (by decide +kernel) (pa_cons (pv 4) pa_nil)) pe_int)) pe_int) (pe_op op_mul pe_int (pv 3))) pe_int) pa_nil)) pe_int))))
      (pss_cons (ps_setLc (i := 5) (own := [("cell", 4)]) (g := gName 4) (by rfl) nd rfl rfl (sw_true rfl rfl rfl (by decide +kernel)) (pi_list (pe_slice sl_list (pe_callTy call_list_of rfl gL (by decide +kernel) (pa_cons (pv 0) pa_nil)) (po_some (pv 1)) (po_some (pe_op op_add (pv 1) pe_int))))
          (blkOk_by (N := ["cells", "seat", "roll", "nth", "cell", "own"]) (sc := defScope sCourt) (by decide +kernel)) (fun _ _ _ _ _ => pg_name (i := 4) nd rfl (Or.inl rfl))
          (fun _ _ _ _ _ => pts_one (pt_cmpR op_gt (pe_callB call_abs rfl gA (by decide +kernel) (pa_cons (pe_callTy call_int1 rfl gI (by decide +kernel) (pa_cons (pv 4) pa_nil)) pa_nil)) (pe_op op_pow pe_int pe_int) (nomark _)))
          (fun _ _ _ _ _ => pe_callB call_abs rfl gA (by decide +kernel) (pa_cons (pe_callTy call_int1 rfl gI (by decide +kernel) (pa_cons (pv 4) pa_nil)) pa_nil)))
      (pss_one (ps_ret (pe_disp (pps_cons pe_str (pv 2) (pps_cons pe_str (pe_ifExp (pt_cmpR (op_neD hu64) (pv 5) (pe_lst pa_nil) (nomark _)) (pe_ix ix_list (pv 5) pe_int (fun _ _ => rfl)) pe_int) pps_nil)) (by rfl) (by rfl) (fun z => by cases z) (by decide)))))), ?_⟩
    obtain ⟨a, k, ns, rfl, hk, hS, hz, q⟩ := h
    refine ⟨_, rfl, _, _, rfl, rfl, .inl ⟨by decide, by decide⟩, _, _, rfl, rfl, ?_⟩
    refine ⟨_, rfl, a, _, rfl, .inl hS, fun l hl => ⟨_, rfl, l, _, rfl, SqL.of upd_same, fun p hp => ⟨p, _, rfl, SqL.of upd_same, ?_⟩⟩⟩
    have X2 : XtN H (upd (upd H l (.lst (ns.map V.int))) p (.lst (cutV (ns.map V.int) none (some 7)))) := (XtN.new hl).trans (.new hp)
    generalize hys : cutV (ns.map V.int) none (some 7) = ys at *
    have hyl : ys.length ≤ ns.length := by
      have z := cutV_length (ns.map V.int) none (some 7)
      rw [hys, List.length_map] at z
      exact z
    have hyi : ∀ x ∈ ys, ∃ c : Int, x = .int c := fun x hx => by
      rw [← hys] at hx
      unfold cutV at hx
      have z := List.mem_of_mem_drop (List.mem_of_mem_take hx)
      obtain ⟨c, _, rfl⟩ := List.mem_map.mp z
      exact ⟨c, rfl⟩
    generalize hH2 : upd (upd H l (.lst (ns.map V.int))) p (.lst ys) = H2 at *
    have hSy : SqL K H2 p ys := by
      rw [← hH2]
      exact SqL.of upd_same
    refine ⟨fun i m σ' H' => i + m = ys.length ∧ XtN H2 H' ∧ ∃ (r : Int) (x3 x4 : Option V), 0 ≤ r ∧ r < 2305843009213693951 ∧ σ' = [some (.ref a), some (.int k), some (.int r), x3, x4, none], ⟨ys.length, by omega, .refl, 40127 + 71 * (k : Int), none, none, by omega, by omega, rfl⟩, fun i m σ' H' hW => ?_⟩
    obtain ⟨him, X3, r, x3, x4, r0, r1, rfl⟩ := hW
    by_cases hi : i < ys.length
    · right
      refine ⟨⟨ys, ys[i], X3.sql hSy, List.getElem?_eq_getElem hi⟩, fun σ2 H3 => XtN H2 H3 ∧ ∃ (r : Int) (x3 x4 : Option V), 0 ≤ r ∧ r < 2305843009213693951 ∧ σ2 = [some (.ref a), some (.int k), some (.int r), x3, x4, none], fun σ2 H3 hN => ⟨m - 1, by omega, by omega, hN⟩, fun v H3 hy => ?_⟩
      obtain ⟨T, x, rfl, hT, rfl, hx⟩ := hy
      have e := hx ys (X3.sql hSy)
      rw [List.getElem?_eq_getElem hi] at e
      cases e
      obtain ⟨c, hc⟩ := hyi _ (List.getElem_mem hi)
      rw [hc]
      have c0 : 0 ≤ c % 122949829 := Int.emod_nonneg _ (by decide)
      have c1 : c % 122949829 < 122949829 := Int.emod_lt_of_pos _ (by decide)
      refine ⟨T, _, rfl, SqT.of upd_same, rfl, _, _, rfl, _, _, rfl, rfl, ?_⟩
      refine ⟨_, rfl, _, rfl, .inl ⟨_, rfl, _, _, rfl, rfl, (by show (0 : Int) < 122949829; decide), _, _, rfl, rfl, _, _, rfl, rfl, .inl ⟨by omega, by omega⟩, _, rfl, _, _, rfl, rfl, .inl ⟨by decide, by decide⟩, _, _, rfl, rfl, _, _, rfl, rfl, .inl ⟨_, rfl, _, _, rfl, rfl, (by show (0 : Int) < 2305843009213693951; decide), ?_⟩⟩⟩
      exact ⟨X3.trans (.new hT), _, _, _, Int.emod_nonneg _ (by decide), Int.emod_lt_of_pos _ (by decide), rfl⟩
    · left
      refine ⟨⟨ys, X3.sql hSy, by omega⟩, ?_⟩
      dsimp only [tSeq, tAsg]
      refine lc_map (K := K) (xs := cutV (ns.map V.int) (some (k : Int)) (some ((k : Int) + 1))) fOwn (fun b H1 => XtN H' H1 ∧ SqL K H1 b (cutV (ns.map V.int) (some (k : Int)) (some ((k : Int) + 1)))) (fun b H1 p => p.2) ?_ (fun R hR => ?_) (fun b H1 p x hx H3 C Nx X4 h1 h2 => ?_) (fun b H1 p D hD => ?_)
      · have z := cutV_length (ns.map V.int) (some (k : Int)) (some ((k : Int) + 1))
        rw [List.length_map] at z
        rw [sizeLine_eq]
        omega
      · exact ⟨_, rfl, a, _, rfl, .inl ((X2.trans X3).sql hS), fun l2 hl2 => ⟨_, rfl, _, rfl, _, rfl, _, _, rfl, rfl, _, rfl, l2, _, rfl, SqL.of upd_same, fun p2 hp2 => ⟨p2, rfl, ⟨_, SqL.of upd_same⟩, hR _ _ ⟨(XtN.new hl2).trans (.new hp2), SqL.of upd_same⟩⟩⟩⟩
      · have z : ∃ c : Int, x = .int c := by
          unfold cutV at hx
          obtain ⟨c, _, rfl⟩ := List.mem_map.mp (List.mem_of_mem_drop (List.mem_of_mem_take hx))
          exact ⟨c, rfl⟩
        obtain ⟨c, rfl⟩ := z
        refine ⟨rfl, ?_⟩
        by_cases hb : 10 ^ 13 < (if c < 0 then -c else c)
        · refine ⟨_, rfl, .inl ⟨_, rfl, _, rfl, _, _, rfl, rfl, ⟨by decide, by decide, by decide⟩, _, _, rfl, rfl, true, (congrArg V.bl (decide_eq_true hb)), ?_⟩⟩
          show (if true = true then _ else _)
          rw [if_pos rfl]
          exact ⟨_, rfl, .inl ⟨_, rfl, _, rfl, h2 _ (if_pos hb)⟩⟩
        · refine ⟨_, rfl, .inl ⟨_, rfl, _, rfl, _, _, rfl, rfl, ⟨by decide, by decide, by decide⟩, _, _, rfl, rfl, false, (congrArg V.bl (decide_eq_false hb)), ?_⟩⟩
          show (if false = true then _ else _)
          rw [if_neg Bool.false_ne_true]
          exact h1 (if_neg hb)
      · have hL : (List.filterMap fOwn (cutV (ns.map V.int) (some (k : Int)) (some ((k : Int) + 1)))) = [] ∨ ∃ j : Int, 0 ≤ j ∧ (List.filterMap fOwn (cutV (ns.map V.int) (some (k : Int)) (some ((k : Int) + 1)))) = [.int j] := by
          have hl1 : (cutV (ns.map V.int) (some (k : Int)) (some ((k : Int) + 1))).length ≤ 1 := by
            unfold cutV
            rw [List.length_take, HT.sIx_nat, show ((k : Int) + 1) = ((k + 1 : Nat) : Int) by omega, HT.sIx_nat]
            omega
          have hi1 : ∀ x ∈ cutV (ns.map V.int) (some (k : Int)) (some ((k : Int) + 1)), ∃ c : Int, x = .int c := fun x hx => by
            unfold cutV at hx
            obtain ⟨c, _, rfl⟩ := List.mem_map.mp (List.mem_of_mem_drop (List.mem_of_mem_take hx))
            exact ⟨c, rfl⟩
          generalize cutV (ns.map V.int) (some (k : Int)) (some ((k : Int) + 1)) = zs at hl1 hi1
          cases zs with
          | nil => exact .inl rfl
          | cons x zs =>
            cases zs with
            | cons y zs => simp at hl1
            | nil =>
              obtain ⟨c, rfl⟩ := hi1 x (by simp)
              by_cases hb : 10 ^ 13 < (if c < 0 then -c else c)
              · refine .inr ⟨if c < 0 then -c else c, ?_, ?_⟩
                · split <;> omega
                · show List.filterMap fOwn [V.int c] = _
                  rw [List.filterMap_cons, show fOwn (.int c) = some (.int (if c < 0 then -c else c)) from if_pos hb]
                  rfl
              · left
                rw [List.filterMap_cons, show fOwn (.int c) = none from if_neg hb]
                rfl
        have X5 : XtN H (upd H1 D (.lst (List.filterMap fOwn (cutV (ns.map V.int) (some (k : Int)) (some ((k : Int) + 1)))))) := (X2.trans X3).trans (p.1.trans (.new hD))
        intro p hp
        have fin : ∀ (q1 : Addr) (Hd : Hp) (h : Int), XtN H Hd → Hd p = none → (upd Hd p (.dK [])) q1 = none → 0 ≤ h →
            (upd (upd Hd p (.dK [])) q1 (.lst [])) p = some (.dK []) ∧ Q (.ref p) (upd (upd (upd Hd p (.dK [])) q1 (.lst [])) p (.dK (mergeK [] [(kRoll, .int r), (kHeap, .int h)]))) := by
          intro q1 Hd h Xd np nq h0
          have ne : p ≠ q1 := fun z => by
            rw [← z, upd_same] at nq
            cases nq
          refine ⟨by rw [upd_ne ne, upd_same], q p r h _ (fun b o e => ?_) ?_ ⟨upd_same, r0, r1, h0⟩⟩
          · have e1 := Xd b o e
            have hbp := ne_of_none e1 np
            rw [upd_ne hbp]
            exact XtN.new nq b o (by rw [upd_ne hbp]; exact e1)
          · cases z : H p with
            | none => rfl
            | some o =>
              have z2 := Xd p o z
              rw [np] at z2
              cases z2
        rcases hL with e | ⟨j, j0, e⟩
        · rw [e] at hp X5 ⊢
          have eD : (upd (upd H1 D (.lst [])) p (.dK [])) D = some (.lst []) := by rw [upd_ne (ne_of_none upd_same hp), upd_same]
          refine ⟨_, rfl, _, rfl, by simp, fun q1 hq1 => ⟨.list [], .list [], .lst (SqL.of (XtN.new hq1 _ _ eD)) .nil, .lst (SqL.of upd_same) .nil, by decide, by decide, false, congrArg V.bl (by decide), ?_⟩⟩
          show (if false = true then _ else _)
          rw [if_neg Bool.false_ne_true]
          obtain ⟨z1, z2⟩ := fin q1 _ 0 X5 hp hq1 (by decide)
          exact ⟨z1, [(kRoll, .int r), (kHeap, .int 0)], rfl, by simp, z2⟩
        · rw [e] at hp X5 ⊢
          have eD : (upd (upd H1 D (.lst [.int j])) p (.dK [])) D = some (.lst [.int j]) := by rw [upd_ne (ne_of_none upd_same hp), upd_same]
          refine ⟨_, rfl, _, rfl, by simp, fun q1 hq1 => ⟨.list [.int j], .list [], .lst (SqL.of (XtN.new hq1 _ _ eD)) (.cons (.int j) .nil), .lst (SqL.of upd_same) .nil, rfl, by decide, true, congrArg V.bl (by rfl), ?_⟩⟩
          show (if true = true then _ else _)
          rw [if_pos rfl]
          obtain ⟨z1, z2⟩ := fin q1 _ j X5 hp hq1 j0
          exact ⟨_, rfl, D, _, _, .int j, rfl, rfl, SqL.of (XtN.new hq1 _ _ eD), atI_nat (j := 0) rfl, z1, [(kRoll, .int r), (kHeap, .int j)], rfl, by simp, z2⟩
end
end Ex

/-! k01: the classes as they stand, made; the comparison of texts. -/
namespace Ex
open PySem PySem.Spec L2
open PyProof.Rows hiding St

structure C0 (K : PySem.W.Frag) (mg : Str → Option Value) (nm : Str) (D U : Addr) : Prop where
  ec : Ec K D
  ei : Ei K D
  glo : mg nm = some (.ref D)
  kU : PySem.W.kitOne K (.ref D) (.ref U) = some true
  kE : PySem.W.kitOne K (.ref D) (.type "Exception") = some true
structure C1 (P : Program) (w : World) (K : PySem.W.Frag) (mg : Str → Option Value) (base : Heap) (nm x : Str) (D U : Addr) : Prop where
  c0 : C0 K mg nm D U
  no : PySem.W.findIn K (.ref D) x = some none
  ini : ∃ fI fd, PySem.W.findIn K (.ref D) "__init__" = some (some (.ref fI)) ∧ PySem.W.typeIn K (.ref fI) = some (.type "function") ∧ FnOk P w K mg base CX0 1 fI fd ["self", x] (sp1 D x) ∧
    (∀ (s : Shared) (us : List Value), us.length = 2 → BindsTo s fd ⟨us, []⟩ ((["self", x] : List Str).zip us)) ∧ ∀ (s : Shared) (u v : Value), BindsTo s fd ⟨[u], [(x, v)]⟩ [("self", u), (x, v)]
structure C2 (P : Program) (w : World) (K : PySem.W.Frag) (mg : Str → Option Value) (base : Heap) (nm x y : Str) (D U : Addr) : Prop where
  c0 : C0 K mg nm D U
  no : PySem.W.findIn K (.ref D) x = some none
  no2 : PySem.W.findIn K (.ref D) y = some none
  ne : x ≠ y
  ini : ∃ fI fd, PySem.W.findIn K (.ref D) "__init__" = some (some (.ref fI)) ∧ PySem.W.typeIn K (.ref fI) = some (.type "function") ∧ FnOk P w K mg base CX0 1 fI fd ["self", x, y] (sp2 D x y) ∧
    (∀ (s : Shared) (us : List Value), us.length = 3 → BindsTo s fd ⟨us, []⟩ ((["self", x, y] : List Str).zip us)) ∧ ∀ (s : Shared) (u v z : Value), BindsTo s fd ⟨[u], [(y, v), (x, z)]⟩ [("self", u), (x, z), (y, v)]
def tW (D : Addr) (x : Str) (te : TE) : TE := fun σ H Q => te σ H fun v H1 => ∀ a H2, XtN H1 H2 → Fld H2 a D [(x, v)] → Q (.ref a) H2
def tW2 (D : Addr) (x y : Str) (t1 t2 : TE) : TE := fun σ H Q => t1 σ H fun v H1 => t2 σ H1 fun u H2 => ∀ a H3, XtN H2 H3 → Fld H3 a D [(y, u), (x, v)] → Q (.ref a) H3
def tW0 (D : Addr) : TE := fun _ H Q => ∀ a H2, XtN H H2 → H2 a = some (ExO (.ref D) a) → Q (.ref a) H2
theorem new2 {H1 : Hp} {a dx D : Addr} {fs gs : List (Str × V)} (na : H1 a = none) (nd : (upd H1 a (exo a D none)) dx = none) (ne : dx ≠ a) :
    XtN H1 (upd (upd (upd H1 a (exo a D none)) dx (exd dx fs)) a (exo a D (some dx))) ∧ Fld (upd (upd (upd H1 a (exo a D none)) dx (exd dx fs)) a (exo a D (some dx))) a D fs := by
  refine ⟨fun b o e => ?_, dx, upd_same, by rw [upd_ne ne, upd_same]⟩
  have h1 := ne_of_none e na
  rw [upd_ne h1]
  exact XtN.new nd b o (by rw [upd_ne h1]; exact e)
def tUpA (t : TA) : TA := fun σ H Q => ∃ R : List V → Hp → Prop, t σ H R ∧ ∀ vs H1, R vs H1 → Q vs H1
theorem pa_up {X : Cx} {es : List Expr} {t : TA} (h : PA X es t) : PA X es (tUpA t) := by
  refine ⟨fun pos pins s σ H Q I z => ?_⟩
  obtain ⟨R, z1, z2⟩ := z
  refine thn (h.run pos pins s σ H R I z1) fun us s1 hu => ?_
  obtain ⟨vs, H1, I1, r, q⟩ := hu
  exact ⟨vs, H1, I1, r, z2 _ _ q⟩
theorem pk_up {X : Cx} {kws : List Keyword} {t : TA} (h : PK X kws t) : PK X kws (tUpA t) := by
  refine ⟨fun pos pins s σ H Q I z => ?_⟩
  obtain ⟨R, z1, z2⟩ := z
  refine thn (h.run pos pins s σ H R I z1) fun us s1 hu => ?_
  obtain ⟨vs, H1, I1, r, q⟩ := hu
  exact ⟨vs, H1, I1, r, z2 _ _ q⟩
section
variable {X : Cx} {nm x y : Str} {D U : Addr} {e e2 : Expr} {te t2 : TE} {p pos p2 p3 : Pos}
theorem vals_rev : ∀ {zs : List V} {ws : List Value}, Vals zs ws → Vals zs.reverse ws.reverse
  | _, _, .nil => .nil
  | _, _, .cons h r => by
    rw [List.reverse_cons, List.reverse_cons]
    exact (vals_rev r).append (.cons h .nil)
theorem sp1_of {D : Addr} {x : Str} {v : V} {H1 : Hp} {Q : VK} (h : ∀ a H2, XtN H1 H2 → Fld H2 a D [(x, v)] → Q (.ref a) H2) (a : Addr) (na : H1 a = none) :
    sp1 D x [.ref a, v] (upd H1 a (exo a D none)) (fun v H2 => v = .non ∧ Q (.ref a) H2) (fun _ _ _ => False) := by
  refine ⟨a, v, rfl, upd_same, fun dx nd ne => ⟨rfl, ?_⟩⟩
  obtain ⟨h1, h2⟩ := new2 (D := D) (fs := [(x, v)]) (gs := []) na nd ne
  exact h a _ h1 h2
theorem sp2_of {D : Addr} {x y : Str} {v u : V} {H1 : Hp} {Q : VK} (h : ∀ a H2, XtN H1 H2 → Fld H2 a D [(y, u), (x, v)] → Q (.ref a) H2) (a : Addr) (na : H1 a = none) :
    sp2 D x y [.ref a, v, u] (upd H1 a (exo a D none)) (fun v H2 => v = .non ∧ Q (.ref a) H2) (fun _ _ _ => False) := by
  refine ⟨a, v, u, rfl, upd_same, fun dx nd ne => ⟨rfl, ?_⟩⟩
  obtain ⟨h1, h2⟩ := new2 (D := D) (fs := [(y, u), (x, v)]) (gs := []) na nd ne
  have e : upd (upd (upd (upd H1 a (exo a D none)) dx (exd dx [(x, v)])) a (exo a D (some dx))) dx (exd dx [(y, u), (x, v)]) = upd (upd (upd H1 a (exo a D none)) dx (exd dx [(y, u), (x, v)])) a (exo a D (some dx)) := by
    funext b
    by_cases hb : b = dx
    · rw [hb, upd_same, upd_ne ne, upd_same]
    · rw [upd_ne hb]
      by_cases ha : b = a
      · rw [ha, upd_same, upd_same]
      · rw [upd_ne ha, upd_ne hb, upd_ne ha, upd_ne ha, upd_ne hb, upd_ne ha]
  rw [e]
  exact h a _ h1 h2
theorem pe_c1 (C : C1 X.prog X.w X.K X.mg X.base nm x D U) (hr : Room 2 X.A) (hg : Gl X nm) (he : PE X e te) (hs : starEach [e] X.env = (false, eval e X.env) :: starEach [] X.env := by rfl) (hdb : (nm == ("__debug__" : Str)) = false := by decide) :
    PE X (.Call (.Name nm p) [e] [] pos) (tW D x te) := by
  obtain ⟨fI, fd, iC, tI, F1, hb, _⟩ := C.ini
  have M := pe_mk (p := p) (pos := pos) C.c0.ec iC tI F1 hr (fun s us _ hl => by
    rw [List.append_nil] at hl ⊢
    exact hb s us hl) pass0 hg C.c0.glo (pa_up (pa_cons he pa_nil hs)) hdb hs rfl
  refine ⟨fun pins s σ H Q I h => M.run pins s σ H Q I ⟨fun vs H1 => match vs with | [v] => (∀ a H2, XtN H1 H2 → Fld H2 a D [(x, v)] → Q (.ref a) H2) | _ => False, h, fun vs H1 z => ?_⟩⟩
  match vs, z with
  | [v], z => exact ⟨by simp, fun a na => sp1_of z a na⟩
theorem pe_c1K (C : C1 X.prog X.w X.K X.mg X.base nm x D U) (hr : Room 2 X.A) (hg : Gl X nm) (he : PE X e te) (hdb : (nm == ("__debug__" : Str)) = false := by decide) :
    PE X (.Call (.Name nm p) [] [⟨some x, e, p2⟩] pos) (tW D x te) := by
  obtain ⟨fI, fd, iC, tI, F1, _, hb⟩ := C.ini
  have M := pe_mkK (p := p) (pos := pos) (ks := [x]) C.c0.ec iC tI F1 hr pass0 hg C.c0.glo (pk_up (pk_cons he pk_nil : PK X [⟨some x, e, p2⟩] _)) (fun z => z) (fun z => z) (fun s u ws _ hl => by
    match ws, hl with
    | [v], _ => exact hb s u v) rfl rfl hdb rfl
  refine ⟨fun pins s σ H Q I h => M.run pins s σ H Q I ⟨fun vs H1 => match vs with | [v] => (∀ a H2, XtN H1 H2 → Fld H2 a D [(x, v)] → Q (.ref a) H2) | _ => False, h, fun vs H1 z => ?_⟩⟩
  match vs, z with
  | [v], z => exact ⟨rfl, fun a na => sp1_of z a na⟩
theorem pe_c2 (C : C2 X.prog X.w X.K X.mg X.base nm x y D U) (hr : Room 2 X.A) (hg : Gl X nm) (he : PE X e te) (he2 : PE X e2 t2) (hs : starEach [e, e2] X.env = (false, eval e X.env) :: starEach [e2] X.env := by rfl) (hs2 : starEach [e2] X.env = (false, eval e2 X.env) :: starEach [] X.env := by rfl) (hdb : (nm == ("__debug__" : Str)) = false := by decide)
    (hpl : (backTo pos (starEach [e2] X.env)).any (·.1) = false := by rfl) : PE X (.Call (.Name nm p) [e, e2] [] pos) (tW2 D x y te t2) := by
  obtain ⟨fI, fd, iC, tI, F1, hb, _⟩ := C.ini
  have M := pe_mk (p := p) (pos := pos) C.c0.ec iC tI F1 hr (fun s us _ hl => by
    rw [List.append_nil] at hl ⊢
    exact hb s us hl) pass0 hg C.c0.glo (pa_up (pa_cons he (pa_cons he2 pa_nil hs2) hs)) hdb hs hpl
  refine ⟨fun pins s σ H Q I h => M.run pins s σ H Q I ⟨fun vs H1 => match vs with | [v, u] => (∀ a H2, XtN H1 H2 → Fld H2 a D [(y, u), (x, v)] → Q (.ref a) H2) | _ => False, h, fun vs H1 z => ?_⟩⟩
  match vs, z with
  | [v, u], z => exact ⟨by simp, fun a na => sp2_of z a na⟩
/-- N(y = e, x = e2) -/
theorem pe_c2K (C : C2 X.prog X.w X.K X.mg X.base nm x y D U) (hr : Room 2 X.A) (hg : Gl X nm) (he : PE X e te) (he2 : PE X e2 t2) (hdb : (nm == ("__debug__" : Str)) = false := by decide) :
    PE X (.Call (.Name nm p) [] [⟨some y, e, p2⟩, ⟨some x, e2, p3⟩] pos) (fun σ H Q => te σ H fun u H1 => t2 σ H1 fun v H2 => ∀ a H3, XtN H2 H3 → Fld H3 a D [(y, u), (x, v)] → Q (.ref a) H3) := by
  obtain ⟨fI, fd, iC, tI, F1, _, hb⟩ := C.ini
  have M := pe_mkK (p := p) (pos := pos) (ks := [y, x]) C.c0.ec iC tI F1 hr pass0 hg C.c0.glo (pk_up (pk_cons he (pk_cons he2 pk_nil) : PK X [⟨some y, e, p2⟩, ⟨some x, e2, p3⟩] _)) (fun l => l.reverse) (fun {zs ws} z => vals_rev z) (fun s u ws _ hl => by
    match ws, hl with
    | [v, z], _ => exact hb s u v z) rfl rfl hdb rfl
  refine ⟨fun pins s σ H Q I h => M.run pins s σ H Q I ⟨fun vs H1 => match vs with | [u, v] => (∀ a H2, XtN H1 H2 → Fld H2 a D [(y, u), (x, v)] → Q (.ref a) H2) | _ => False, h, fun vs H1 z => ?_⟩⟩
  match vs, z with
  | [u, v], z => exact ⟨rfl, fun a na => sp2_of z a na⟩
theorem pe_c0 (C : C0 X.K X.mg nm D U) (q : PySem.W.excIn X.K D exT "Exception.__new__" = true) (hg : Gl X nm) (hdb : (nm == ("__debug__" : Str)) = false := by decide) : PE X (.Call (.Name nm p) [] [] pos) (tW0 D) := by
  have M := pe_mk0 (p := p) (pos := pos) q C.glo C.ec.kep hg hdb
  exact ⟨fun pins s σ H Q I h => M.run pins s σ H Q I fun a na => h a _ (.new na) upd_same⟩
end
/-! ### _law_like -/
def shortB (d : PyData) : Bool := d.showable && (decide (d.depth ≤ 50) && decide (d.shown.length ≤ sizeLine))
def spLike : Sp := fun vs H Q _ => ∃ a b d, vs = [.ref a, .ref b] ∧ Dat H (.ref a) d ∧ Dat H (.ref b) d ∧ shortB d = true ∧ Q (.bl true) H
section
variable {P : Program} {w : World} {K : PySem.W.Frag} {mg : Str → Option Value} {base : Heap} {f : Addr} {fd : FuncData}
theorem scLike : FnScope ["seen", "due"] ["seen", "due"] (defScope sLike) := ⟨rfl, rfl, rfl, by decide +kernel, rfl, by decide +kernel, by decide +kernel⟩
theorem ok_like (F : FnP K "_law_like" sLike f fd) (gR : mg "repr" = none) (hS : ∃ o, K.lookup sysModules = some o ∧ o.cls = .type "dict") : FnG P w K mg base CX0 1 f fd ["seen", "due"] spLike := by
  refine okG F scLike (fun vs H Q E h => ?_) (fun cdv A hA outer s H vs Q E hr h => ?_)
  · obtain ⟨a, b, d, rfl, _⟩ := h
    rfl
  · refine ⟨_, pss_one (ps_ret (pe_cmpR op_eq (pe_callB (call_rep hS hA hr) rfl gR (by decide +kernel) (pa_cons (pv 0) pa_nil)) (pe_callB (call_rep hS hA hr) rfl gR (by decide +kernel) (pa_cons (pv 1) pa_nil)) (nomark _))), ?_⟩
    obtain ⟨a, b, d, rfl, h1, h2, hs, q⟩ := h
    unfold shortB at hs
    simp only [Bool.and_eq_true, decide_eq_true_eq] at hs
    obtain ⟨s1, s2, s3⟩ := hs
    refine ⟨_, rfl, a, d, rfl, h1, s1, s2, s3, _, rfl, b, d, rfl, h2, s1, s2, s3, rfl, ?_⟩
    have e : decide (V.str d.shown = V.str d.shown) = true := decide_eq_true rfl
    show Q (.bl (decide (V.str d.shown = V.str d.shown))) H
    rw [e]
    exact q
end
end Ex

/-! k01: what the classes keep. -/
namespace Ex
open PySem PySem.Spec L2
open PyProof.Rows hiding St

/-! ### the sealed value -/
inductive SealAt (H : Hp) : V → PyData → Prop
  | non : SealAt H .non .none
  | i31 : SealAt H (.int 31) (.int 31)
  | pl : SealAt H (.str "plain") (.str "plain")
  | t0 {p : Addr} (e : H p = some (.tup [])) : SealAt H (.ref p) (.tuple [])
  | t13 {p : Addr} (e : H p = some (.tup [.int 1, .int 3])) : SealAt H (.ref p) (.tuple [.int 1, .int 3])
  | dk {p : Addr} (e : H p = some (.dK [(.inr "k", .int 0)])) : SealAt H (.ref p) (.dict [(.str "k", .int 0)])
  | tr : SealAt H (.bl true) (.bool true)
  | m19 : SealAt H (.int (-19)) (.int (-19))
  | big : SealAt H (.int 100000000000000000) (.int 100000000000000000)
  | l8 {p : Addr} (e : H p = some (.lst [.int 8])) : SealAt H (.ref p) (.list [.int 8])
  | a2 {p : Addr} (e : H p = some (.tup [.str "a", .int 2])) : SealAt H (.ref p) (.tuple [.str "a", .int 2])
theorem dat_ls {H : Hp} : ∀ {xs : List V} {ds : List PyData}, xs.length = ds.length → (∀ (i : Nat) v d, xs[i]? = some v → ds[i]? = some d → Dat H v d) → ∀ (i : Nat) v d, xs[i]? = some v → ds[i]? = some d → Dat H v d := fun _ h => h
theorem two_at {H : Hp} {v w : V} {d e : PyData} (a : Dat H v d) (b : Dat H w e) (i : Nat) (x : V) (y : PyData) (h1 : [v, w][i]? = some x) (h2 : [d, e][i]? = some y) : Dat H x y := by
  match i, h1, h2 with
  | 0, h1, h2 => cases h1; cases h2; exact a
  | 1, h1, h2 => cases h1; cases h2; exact b
theorem one_at {H : Hp} {v : V} {d : PyData} (a : Dat H v d) (i : Nat) (x : V) (y : PyData) (h1 : [v][i]? = some x) (h2 : [d][i]? = some y) : Dat H x y := by
  match i, h1, h2 with
  | 0, h1, h2 => cases h1; cases h2; exact a
theorem SealAt.dat {H : Hp} {v : V} {d : PyData} (h : SealAt H v d) : Dat H v d := by
  cases h with
  | non => exact .non
  | i31 => exact .int _
  | pl => exact .str _
  | t0 e => exact .tup e rfl (fun i v d h1 _ => by simp at h1)
  | t13 e => exact .tup e rfl (two_at (.int 1) (.int 3))
  | dk e => exact .dK (ds := [.int 0]) e rfl (one_at (.int 0))
  | tr => exact .bl _
  | m19 => exact .int _
  | big => exact .int _
  | l8 e => exact .lst e rfl (one_at (.int 8))
  | a2 e => exact .tup e rfl (two_at (.str "a") (.int 2))
theorem SealAt.short {H : Hp} {v : V} {d : PyData} (h : SealAt H v d) : shortB (.list (List.replicate 19 d)) = true := by
  cases h <;> decide +kernel
theorem num_short : ∀ n < 90, shortB (.list (List.replicate 19 (.list [.int ((n : Nat) : Int)]))) = true := by decide +kernel
/-- what stays: all but what stands at c and s -/
def Mv (H H' : Hp) (c s : Addr) : Prop := ∀ p o, p ≠ c → p ≠ s → H p = some o → H' p = some o
theorem SealAt.mv {H H' : Hp} {c s : Addr} {r h : Int} {v : V} {d : PyData} (hc : H c = some (.dK [(kRoll, .int r), (kHeap, .int h)])) (hs : H s = some (.lst [])) (m : Mv H H' c s) (z : SealAt H v d) : SealAt H' v d := by
  have k : ∀ {p : Addr} {o : HO}, H p = some o → o ≠ .dK [(kRoll, .int r), (kHeap, .int h)] → o ≠ .lst [] → H' p = some o := fun {p o} e n1 n2 =>
    m p o (fun z => n1 (by rw [z, hc] at e; exact (Option.some.inj e).symm)) (fun z => n2 (by rw [z, hs] at e; exact (Option.some.inj e).symm)) e
  cases z with
  | non => exact .non
  | i31 => exact .i31
  | pl => exact .pl
  | t0 e => exact .t0 (k e (fun z => by cases z) (fun z => by cases z))
  | t13 e => exact .t13 (k e (fun z => by cases z) (fun z => by cases z))
  | dk e => exact .dk (k e (fun z => by cases z) (fun z => by cases z))
  | tr => exact .tr
  | m19 => exact .m19
  | big => exact .big
  | l8 e => exact .l8 (k e (fun z => by cases z) (fun z => by cases z))
  | a2 e => exact .a2 (k e (fun z => by cases z) (fun z => by cases z))
theorem SealAt.xt {H H' : Hp} {v : V} {d : PyData} (m : XtN H H') (z : SealAt H v d) : SealAt H' v d := by
  cases z with
  | non => exact .non
  | i31 => exact .i31
  | pl => exact .pl
  | t0 e => exact .t0 (m _ _ e)
  | t13 e => exact .t13 (m _ _ e)
  | dk e => exact .dk (m _ _ e)
  | tr => exact .tr
  | m19 => exact .m19
  | big => exact .big
  | l8 e => exact .l8 (m _ _ e)
  | a2 e => exact .a2 (m _ _ e)
theorem Fld.xt {H H' : Hp} {a D : Addr} {fs : List (Str × V)} (m : XtN H H') (z : Fld H a D fs) : Fld H' a D fs := by
  obtain ⟨d, h1, h2⟩ := z
  exact ⟨d, m _ _ h1, m _ _ h2⟩
theorem Fld.mv {H H' : Hp} {c s a D : Addr} {fs : List (Str × V)} {kv : List (Key × V)} {ls : List V} (hc : H c = some (.dK kv)) (hs : H s = some (.lst ls)) (m : Mv H H' c s) (z : Fld H a D fs) : Fld H' a D fs := by
  obtain ⟨d, h1, h2⟩ := z
  have k : ∀ {p : Addr} {φ : Heap → Prop}, H p = some (.ext φ) → H' p = some (.ext φ) := fun {p φ} e => m p _ (fun z => by rw [z, hc] at e; cases e) (fun z => by rw [z, hs] at e; cases e) e
  exact ⟨d, k h1, k h2⟩

/-! ### many made at once -/
def All1 (H : Hp) (x : Str) (v : V) (Ds : List Addr) (xs : List V) : Prop := xs.length = Ds.length ∧ ∀ u ∈ xs, ∃ a D, D ∈ Ds ∧ u = .ref a ∧ Fld H a D [(x, v)]
theorem All1.xt {H H' : Hp} {x : Str} {v : V} {Ds : List Addr} {xs : List V} (m : XtN H H') (z : All1 H x v Ds xs) : All1 H' x v Ds xs :=
  ⟨z.1, fun u hu => let ⟨a, D, h1, h2, h3⟩ := z.2 u hu; ⟨a, D, h1, h2, h3.xt m⟩⟩
theorem All1.mv {H H' : Hp} {c s : Addr} {kv : List (Key × V)} {ls : List V} {x : Str} {v : V} {Ds : List Addr} {xs : List V} (hc : H c = some (.dK kv)) (hs : H s = some (.lst ls)) (m : Mv H H' c s) (z : All1 H x v Ds xs) : All1 H' x v Ds xs :=
  ⟨z.1, fun u hu => let ⟨a, D, h1, h2, h3⟩ := z.2 u hu; ⟨a, D, h1, h2, h3.mv hc hs m⟩⟩
theorem All1.app {H : Hp} {x : Str} {v : V} {Ds Es : List Addr} {xs ys : List V} (z : All1 H x v Ds xs) (w : All1 H x v Es ys) : All1 H x v (Ds ++ Es) (xs ++ ys) :=
  ⟨by rw [List.length_append, List.length_append, z.1, w.1], fun u hu => (List.mem_append.mp hu).elim (fun hu => let ⟨a, D, h1, h2⟩ := z.2 u hu; ⟨a, D, List.mem_append_left _ h1, h2⟩) (fun hu => let ⟨a, D, h1, h2⟩ := w.2 u hu; ⟨a, D, List.mem_append_right _ h1, h2⟩)⟩
def tMks (Ds : List Addr) (x : Str) (j : Nat) : TA := fun σ H Q => ∃ v, σ[j]? = some (some v) ∧ ∀ xs H2, XtN H H2 → All1 H2 x v Ds xs → Q xs H2
theorem pa_mk0 {X : Cx} {x : Str} {j : Nat} : PA X [] (tMks [] x j) :=
  ⟨fun pos pins s σ H Q I h => (pa_nil (X := X)).run pos pins s σ H Q I (let ⟨v, _, q⟩ := h; q [] H .refl ⟨rfl, fun u hu => by cases hu⟩)⟩
theorem pa_mkS {X : Cx} {e : Expr} {es : List Expr} {D : Addr} {Ds : List Addr} {x : Str} {j : Nat} (he : PE X e (tW D x (tVar j))) (hr : PA X es (tMks Ds x j)) (hs : starEach (e :: es) X.env = (false, eval e X.env) :: starEach es X.env := by rfl) : PA X (e :: es) (tMks (D :: Ds) x j) := by
  refine ⟨fun pos pins s σ H Q I h => (pa_cons he hr hs).run pos pins s σ H Q I ?_⟩
  obtain ⟨v, hv, q⟩ := h
  refine ⟨v, hv, fun a H2 X2 F2 => ⟨v, hv, fun xs H3 X3 A => q _ H3 (X2.trans X3) ⟨by rw [List.length_cons, List.length_cons, A.1], fun u hu => ?_⟩⟩⟩
  rcases List.mem_cons.mp hu with rfl | hu
  · exact ⟨a, D, by simp, rfl, F2.xt X3⟩
  · obtain ⟨a, D', h1, h2⟩ := A.2 u hu
    exact ⟨a, D', List.mem_cons_of_mem _ h1, h2⟩
end Ex

/-! k01: _law_do_keep. -/
namespace Ex
open PySem PySem.Spec L2
open PyProof.Rows hiding St

abbrev sKeep : Stmt := top 28
abbrev Nk : List Str := ["court", "scroll", "seal", "bare", "named", "pairs", "held", "every", "e"]
theorem scKeep : FnScope Nk ["court"] (defScope sKeep) := ⟨rfl, rfl, rfl, by decide +kernel, rfl, by decide +kernel, by decide +kernel⟩
/-- the classes as they stand -/
structure Cls (P : Program) (w : World) (K : PySem.W.Frag) (mg : Str → Option Value) (base : Heap) (cl : Str → Addr) : Prop where
  c1 : ∀ nm ∈ (["InvalidText", "InvalidBook", "InvalidTree", "InvalidName", "InvalidCode", "InvalidWhole", "InvalidWay", "InvalidLot", "InvalidDerivation", "InvalidProof", "InvalidTable", "InvalidSteps", "InvalidNumber", "InvalidLine", "NotADesk"] : List Str), C1 P w K mg base nm "given" (cl nm) (cl "DutyError")
  bar : C1 P w K mg base "Barred" "reason" (cl "Barred") (cl "DutyError")
  dee : C1 P w K mg base "InvalidDeed" "index" (cl "InvalidDeed") (cl "DutyError")
  nwr : C2 P w K mg base "NotWellRead" "row" "word" (cl "NotWellRead") (cl "DutyError")
  c0 : ∀ nm ∈ (["NotOwed", "NoCode", "TooGreat", "DutyError"] : List Str), C0 K mg nm (cl nm) (cl "DutyError") ∧ PySem.W.excIn K (cl nm) exT "Exception.__new__" = true
theorem pe_isx {X : Cx} {K : PySem.W.Frag} {a b : Expr} {ta tb : TE} {p pos : Pos} (hK : X.K = K) (hg : Gl X "isinstance") (hm : X.mg "isinstance" = none) (ha : PE X a ta) (hb : PE X b tb) (h1 : starEach [a, b] X.env = (false, eval a X.env) :: starEach [b] X.env := by rfl) (h2 : starEach [b] X.env = (false, eval b X.env) :: starEach [] X.env := by rfl)
    (h3 : (backTo pos (starEach [b] X.env)).any (·.1) = false := by rfl) : PE X (.Call (.Name "isinstance" p) [a, b] [] pos) (tCB (rIsx K) (tCons ta (tCons tb tNil))) := by
  subst hK
  exact pe_callB call_isx hg hm (by decide +kernel) (pa_cons ha (pa_cons hb pa_nil h2) h1) (by decide) (by decide) h1 h3
/-! ### a list of them made, and made longer -/
section
variable {X : Cx} {y : Str} {es : List Expr} {Ds Es : List Addr} {x : Str} {i j : Nat} {p1 p2 p3 p4 pos : Pos}
def sFirst (i j : Nat) (Ds : List Addr) (x : Str) : TS := fun D σ H => ∃ v, σ[j]? = some (some v) ∧ Ds.length ≤ 1000 ∧ ∀ xs b H2, XtN H H2 → H2 b = some (.lst xs) → All1 H2 x v Ds xs → D.nx (σ.set i (some (.ref b))) H2
def sNext (i j : Nat) (Ds Es : List Addr) (x : Str) : TS := fun D σ H => ∃ v a xs0, σ[j]? = some (some v) ∧ σ[i]? = some (some (.ref a)) ∧ H a = some (.lst xs0) ∧ All1 H x v Ds xs0 ∧ Ds.length + Es.length ≤ 1000 ∧
  ∀ xs b H2, XtN H H2 → H2 b = some (.lst xs) → All1 H2 x v (Ds ++ Es) xs → D.nx (σ.set i (some (.ref b))) H2
theorem ps_first (nd : X.N.Nodup) (hi : X.N[i]? = some y) (hx : Loc X.env.scope y) (ha : PA X es (tMks Ds x j)) (hf : X.fn y = true ∨ X.env.scope.names.lookup y = some .local) (hs : swapsWith (.List es p2) (some (.Name y p1)) pos.line X.env = pure false := by rfl) :
    PS X (.Assign [.Name y p1] (.List es p2) pos) (sFirst i j Ds x) := by
  refine ⟨fun pins s σ H D I h => (ps_set (i := i) nd hi hx (pe_lst ha) hs hf).run pins s σ H D I ?_⟩
  obtain ⟨v, hv, hl, q⟩ := h
  refine ⟨v, hv, fun xs H2 X2 A => ⟨by rw [A.1, sizeLine_eq]; omega, fun b hb => ?_⟩⟩
  exact q xs b _ (X2.trans (.new hb)) upd_same (A.xt (.new hb))
theorem ps_next (Ds : List Addr) (nd : X.N.Nodup) (hi : X.N[i]? = some y) (hx : Loc X.env.scope y) (hv : Vis X.env.scope y) (hd : (y == ("__debug__" : Str)) = false) (hcd : (y == ("__classdict__" : Str)) = false) (ha : PA X es (tMks Es x j)) (hf : X.fn y = true ∨ X.env.scope.names.lookup y = some .local)
    (hs : swapsWith (.BinOp (.Name y p3) .Add (.List es p2) p4) (some (.Name y p1)) pos.line X.env = pure false := by rfl) :
    PS X (.Assign [.Name y p1] (.BinOp (.Name y p3) .Add (.List es p2) p4) pos) (sNext i j Ds Es x) := by
  refine ⟨fun pins s σ H D I h => (ps_set (i := i) nd hi hx (pe_op op_cat (pe_var hi hv hd hcd) (pe_lst ha)) hs hf).run pins s σ H D I ?_⟩
  obtain ⟨v, a, xs0, hv, ea, h0, A0, hl, q⟩ := h
  refine ⟨_, ea, v, hv, fun xs H2 X2 A => ⟨by rw [A.1, sizeLine_eq]; omega, fun b hb => ⟨a, b, xs0, xs, rfl, rfl, (X2.trans (.new hb)) _ _ h0, upd_same, by rw [A0.1, A.1, sizeLine_eq]; omega, fun b2 hb2 => ?_⟩⟩⟩
  exact q (xs0 ++ xs) b2 _ (X2.trans ((XtN.new hb).trans (.new hb2))) upd_same ((A0.xt (X2.trans ((XtN.new hb).trans (.new hb2)))).app (A.xt ((XtN.new hb).trans (.new hb2))))
end
theorem seal_of {H : Hp} {t0 t1 dk l8 a2 : Addr} {v : V} {i : Nat} (e0 : H t0 = some (.tup [])) (e1 : H t1 = some (.tup [.int 1, .int 3])) (e2 : H dk = some (.dK [(.inr "k", .int 0)])) (e3 : H l8 = some (.lst [.int 8])) (e4 : H a2 = some (.tup [.str "a", .int 2]))
    (hv : [V.non, V.int 31, V.str "plain", V.ref t0, V.ref t1, V.ref dk, V.bl true, V.int (-19), V.int (10 ^ 17), V.ref l8, V.ref a2][i]? = some v) : ∃ d, SealAt H v d := by
  have e : (10 : Int) ^ 17 = 100000000000000000 := by decide
  match i, hv with
  | 0, hv => cases hv; exact ⟨_, .non⟩
  | 1, hv => cases hv; exact ⟨_, .i31⟩
  | 2, hv => cases hv; exact ⟨_, .pl⟩
  | 3, hv => cases hv; exact ⟨_, .t0 e0⟩
  | 4, hv => cases hv; exact ⟨_, .t13 e1⟩
  | 5, hv => cases hv; exact ⟨_, .dk e2⟩
  | 6, hv => cases hv; exact ⟨_, .tr⟩
  | 7, hv => cases hv; exact ⟨_, .m19⟩
  | 8, hv => rw [e] at hv; cases hv; exact ⟨_, .big⟩
  | 9, hv => cases hv; exact ⟨_, .l8 e3⟩
  | 10, hv => cases hv; exact ⟨_, .a2 e4⟩
  | n + 11, hv => simp at hv
theorem lst_mv {H H' : Hp} {c s b : Addr} {kv : List (Key × V)} {xs : List V} (hc : H c = some (.dK kv)) (hs : H s = some (.lst [])) (m : Mv H H' c s) (ne : xs ≠ []) (e : H b = some (.lst xs)) : H' b = some (.lst xs) :=
  m b _ (fun z => by
    rw [z, hc] at e
    cases e) (fun z => by
    rw [z, hs] at e
    cases e
    exact ne rfl) e
theorem fm_const {v : V} : ∀ xs : List V, xs.filterMap (fun _ => some v) = List.replicate xs.length v
  | [] => rfl
  | x :: xs => by
    rw [List.filterMap_cons, fm_const xs]
    rfl
theorem rep_add {v : V} (n m : Nat) : List.replicate n v ++ List.replicate m v = List.replicate (n + m) v := by simp
def spKeep : Sp := fun vs H Q _ => ∃ c r h, vs = [.ref c] ∧ Ct H c r h ∧ ∀ H', XtB H H' c → Q (.bl true) H'
end Ex

/-! k01: the second half of _law_do_keep. -/
namespace Ex
open PySem PySem.Spec L2
open PyProof.Rows hiding St
theorem dat_rep {H : Hp} {a : Addr} {k : Nat} {u : V} {d : PyData} (e : H a = some (.lst (List.replicate k u))) (h : Dat H u d) : Dat H (.ref a) (.list (List.replicate k d)) := by
  refine .lst e (by simp) (fun i v d' h1 h2 => ?_)
  rw [List.getElem?_replicate] at h1 h2
  split at h1
  · cases h1
    split at h2
    · cases h2
      exact h
    · rename_i z1 z2
      exact absurd z1 z2
  · cases h1
theorem fm_none : ∀ xs : List V, xs.filterMap (fun _ => (none : Option V)) = []
  | [] => rfl
  | x :: xs => by
    rw [List.filterMap_cons, fm_none xs]
theorem Obx.xt {H H' : Hp} {a C : Addr} (m : XtN H H') (h : Obx H a C) : Obx H' a C := by
  rcases h with ⟨fs, h⟩ | h
  · exact .inl ⟨fs, h.xt m⟩
  · exact .inr (m _ _ h)
theorem flat_rep {u : V} : ∀ k : Nat, (List.replicate k [u]).flatten = List.replicate k u
  | 0 => rfl
  | k + 1 => by
    rw [List.replicate_succ, List.flatten_cons, flat_rep k, List.replicate_succ]
    rfl
section
variable {P : Program} {w : World} {K : PySem.W.Frag} {mg : Str → Option Value} {base : Heap} {cl : Str → Addr} {f fL : Addr} {fdL : FuncData}
theorem keep_tail (CL : Cls P w K mg base cl) (FL : FnP K "_law_like" sLike fL fdL) (gL : mg "_law_like" = some (.ref fL)) (gN : mg "len" = none) (gR : mg "repr" = none) (gS : mg "isinstance" = none) (gE : mg "Exception" = none)
    (hS : ∃ o, K.lookup sysModules = some o ∧ o.cls = .type "dict") (cdv : Value) (A : Around) (hA : A.guards = some []) (outer : List Env) (s0 : Shared) (H0 : Hp) (E : XK) (hr : Room 2 (A.deeper (envOfC "_law_do_keep" (defScope sKeep) s0.heap.objs.size f cdv))) :
    ∃ t, PSs (cxOf CX0 P w K mg base Nk "_law_do_keep" (defScope sKeep) f cdv A outer s0 H0 E) ((defBody sKeep).drop 12) t ∧
      ∀ (D : Ends) (HA : Hp) (c s g b m : Addr) (v : V) (d : PyData) (n : Int) (bs ms : List V) (w1 w2 w3 w4 w5 w6 : Addr), SealAt HA v d → 0 ≤ n → n < 90 → HA s = some (.lst [.int n]) → HA g = some (.lst ([V.ref w1, V.ref w2, V.ref w3, V.ref w4] ++ [V.ref w5, V.ref w6])) →
        HA b = some (.lst bs) → HA m = some (.lst ms) → bs.length = 15 → ms.length = 15 →
        (∀ u ∈ bs, ∃ a D nm, C1 P w K mg base nm "given" D (cl "DutyError") ∧ u = .ref a ∧ Fld HA a D [("given", .ref s)]) → (∀ u ∈ ms, ∃ a D nm, C1 P w K mg base nm "given" D (cl "DutyError") ∧ u = .ref a ∧ Fld HA a D [("given", v)]) →
        Fld HA w1 (cl "NotWellRead") [("word", v), ("row", .ref s)] → Fld HA w2 (cl "NotWellRead") [("word", .ref s), ("row", v)] → Fld HA w3 (cl "Barred") [("reason", .ref s)] → Fld HA w4 (cl "Barred") [("reason", v)] →
        Fld HA w5 (cl "InvalidDeed") [("index", .ref s)] → Fld HA w6 (cl "InvalidDeed") [("index", v)] → (∀ H', XtN HA H' → D.rt (.bl true) H') →
        t D [some (.ref c), some (.ref s), some v, some (.ref b), some (.ref m), some (.ref g), none, none, none] HA := by
  have GL : FnG P w K mg base CX0 1 fL fdL ["seen", "due"] spLike := ok_like FL gR hS
  have bL : Binds K fdL ["seen", "due"] [] := FL.bindsN fun _ _ _ _ _ _ us hl => match us, hl with | [_, _], _ => rfl
  have hu64 := hr.units
  have nd := scKeep.nd
  have r1 := hr.mono (show 1 ≤ 2 by decide)
  refine ⟨_, (pss_cons (ps_set (i := 6) nd rfl (Or.inl rfl) (pe_op op_cat (pe_lc (own := [("e", 8)]) (g := gName 8) (te := tFld K "given" (tVar 8)) (by rfl) nd (pi_list (pv 3)) (blkOk_by (N := Nk) (sc := defScope sKeep) (by decide +kernel)) (fun _ _ _ _ _ => pg_name (i := 8) nd rfl (Or.inl rfl)) (fun _ _ _ _ _ => pts_nil) (fun _ _ _ _ _ => pe_fld (pv 8)))
          (pe_lst (pa_cons (pe_fld (pe_ix ix_list (pv 5) pe_int (fun _ _ => rfl))) (pa_cons (pe_fld (pe_ix ix_list (pv 5) pe_int (fun _ _ => rfl))) (pa_cons (pe_fld (pe_ix ix_list (pv 5) pe_int (fun _ _ => rfl))) (pa_cons (pe_fld (pe_ix ix_list (pv 5) pe_int (fun _ _ => rfl))) pa_nil)))))))
      (pss_cons (ps_if (PW.pt (pw_or (pt_not (pt_val (pe_callG hA GL r1 rfl gL FL.kp bL .nil pass0 (pa_cons (pv 6) (pa_cons (pe_op op_rep (pe_lst (pa_cons (pv 1) pa_nil)) pe_int) pa_nil))))) (pw_or1 (pt_cmpR op_ne (pe_callB call_len rfl gN boot_len (pa_cons (pv 1) pa_nil)) pe_int (nomark _))))) (pss_one (ps_ret pe_bl)) pss_nil)
      (pss_cons (ps_set (i := 6) nd rfl (Or.inl rfl) (pe_op op_cat (pe_lc (own := [("e", 8)]) (g := gName 8) (te := tFld K "given" (tVar 8)) (by rfl) nd (pi_list (pv 4)) (blkOk_by (N := Nk) (sc := defScope sKeep) (by decide +kernel)) (fun _ _ _ _ _ => pg_name (i := 8) nd rfl (Or.inl rfl)) (fun _ _ _ _ _ => pts_nil) (fun _ _ _ _ _ => pe_fld (pv 8)))
          (pe_lst (pa_cons (pe_fld (pe_ix ix_list (pv 5) pe_int (fun _ _ => rfl))) (pa_cons (pe_fld (pe_ix ix_list (pv 5) pe_int (fun _ _ => rfl))) (pa_cons (pe_fld (pe_ix ix_list (pv 5) pe_int (fun _ _ => rfl))) (pa_cons (pe_fld (pe_ix ix_list (pv 5) pe_int (fun _ _ => rfl))) pa_nil)))))))
      (pss_cons (ps_if (pt_not (pt_val (pe_callG hA GL r1 rfl gL FL.kp bL .nil pass0 (pa_cons (pv 6) (pa_cons (pe_op op_rep (pe_lst (pa_cons (pv 2) pa_nil)) pe_int) pa_nil))))) (pss_one (ps_ret pe_bl)) pss_nil)
      (pss_cons (ps_set (i := 7) nd rfl (Or.inl rfl) (pe_op op_cat (pe_op op_cat (pe_op op_cat (pv 3) (pv 4)) (pv 5)) (pe_lst (pa_cons (pe_c0 (CL.c0 _ (by simp)).1 (CL.c0 _ (by simp)).2 rfl) (pa_cons (pe_c0 (CL.c0 _ (by simp)).1 (CL.c0 _ (by simp)).2 rfl) (pa_cons (pe_c0 (CL.c0 _ (by simp)).1 (CL.c0 _ (by simp)).2 rfl) (pa_cons (pe_c0 (CL.c0 _ (by simp)).1 (CL.c0 _ (by simp)).2 rfl) pa_nil)))))))
      (pss_one (ps_ret (pe_cmpR (op_eqD hu64) (pe_lc (own := [("e", 8)]) (g := gName 8) (by rfl) nd (pi_list (pv 7)) (blkOk_by (N := Nk) (sc := defScope sKeep) (by decide +kernel)) (fun _ _ _ _ _ => pg_name (i := 8) nd rfl (Or.inl rfl))
        (fun _ _ _ _ _ => pts_one (PW.pt (pw_or (pt_not (pt_val (pe_isx (K := K) rfl rfl gS (pv 8) (pe_glob (v := .ref (cl "DutyError")) rfl (CL.c0 _ (by simp)).1.glo rfl)))) (pw_or1 (pt_not (pt_val (pe_isx (K := K) rfl rfl gS (pv 8) (pe_bltn (v := .ty "Exception") rfl gE (by decide +kernel) rfl)))))))) (fun _ _ _ _ _ => pv 8)) (pe_lst pa_nil) (nomark _))))))))), ?_⟩
  intro D HA c s g b m v d n bs ms w1 w2 w3 w4 w5 w6 hd n0 n1 eN Ag eB eM lB lM AB AM F1 F2 F3 F4 F5 F6 q
  dsimp only [tSeq, tAsg, tOp]
  refine lc_map (K := K) (xs := bs) (fun _ => some (V.ref s)) (fun a H1 => a = b ∧ H1 = HA) (fun a H1 p => ?_) (by rw [lB, sizeLine_eq]; omega) (fun R hR => ⟨_, rfl, b, rfl, ⟨_, SqL.of eB⟩, hR b HA ⟨rfl, rfl⟩⟩) (fun a H1 p x hx H2 C Nx X4 h1 h2 => ?_) (fun a H1 p D1 hD1 => ?_)
  · obtain ⟨rfl, rfl⟩ := p
    exact SqL.of eB
  · obtain ⟨rfl, rfl⟩ := p
    obtain ⟨a', D, nm, hC, rfl, F⟩ := AB x hx
    refine ⟨rfl, ?_⟩
    show tFld K "given" (tVar 8) _ _ C
    exact ⟨_, rfl, a', D, [("given", .ref s)], .ref s, rfl, hC.c0.ec, hC.no, F.xt X4, rfl, h2 _ rfl⟩
  obtain ⟨rfl, rfl⟩ := p
  have Q1 : XtN H1 (upd H1 D1 (.lst (bs.filterMap fun _ => some (V.ref s)))) := .new hD1
  have eg := Q1 _ _ Ag
  refine ⟨_, rfl, g, _, _, _, rfl, rfl, SqL.of eg, atI_nat (j := 0) rfl, w1, cl "NotWellRead", [("word", v), ("row", .ref s)], .ref s, rfl, CL.nwr.c0.ec, CL.nwr.no, F1.xt Q1, rfl, ?_⟩
  refine ⟨_, rfl, g, _, _, _, rfl, rfl, SqL.of eg, atI_nat (j := 1) rfl, w2, cl "NotWellRead", [("word", .ref s), ("row", v)], .ref s, rfl, CL.nwr.c0.ec, CL.nwr.no2, F2.xt Q1, rfl, ?_⟩
  refine ⟨_, rfl, g, _, _, _, rfl, rfl, SqL.of eg, atI_nat (j := 2) rfl, w3, cl "Barred", [("reason", .ref s)], .ref s, rfl, CL.bar.c0.ec, CL.bar.no, F3.xt Q1, rfl, ?_⟩
  refine ⟨_, rfl, g, _, _, _, rfl, rfl, SqL.of eg, atI_nat (j := 4) rfl, w5, cl "InvalidDeed", [("index", .ref s)], .ref s, rfl, CL.dee.c0.ec, CL.dee.no, F5.xt Q1, rfl, ?_⟩
  refine ⟨by show 4 ≤ sizeLine; decide, fun p1 hp1 => ⟨D1, p1, _, _, rfl, rfl, (XtN.new hp1) _ _ upd_same, upd_same, ?_, fun z1 hz1 => ?_⟩⟩
  · rw [fm_const, List.length_replicate, lB]
    show 15 + 4 ≤ sizeLine
    decide
  have eL : (bs.filterMap fun _ => some (V.ref s)) ++ [V.ref s, V.ref s, V.ref s, V.ref s] = List.replicate 19 (V.ref s) := by
    rw [fm_const, lB]
    rfl
  rw [eL]
  have X1 := Q1.trans ((XtN.new hp1).trans (.new (o := .lst (List.replicate 19 (V.ref s))) hz1))
  have ez := upd_same (H := upd (upd H1 D1 (.lst (bs.filterMap fun _ => some (V.ref s)))) p1 (.lst [V.ref s, V.ref s, V.ref s, V.ref s])) (a := z1) (o := .lst (List.replicate 19 (V.ref s)))
  clear eg hp1
  generalize upd (upd (upd H1 D1 (.lst (bs.filterMap fun _ => some (V.ref s)))) p1 (.lst [V.ref s, V.ref s, V.ref s, V.ref s])) z1 (.lst (List.replicate 19 (V.ref s))) = HB at X1 ez ⊢
  have nn : ((n.toNat : Nat) : Int) = n := by omega
  have sn : shortB (.list (List.replicate 19 (.list [.int n]))) = true := by
    rw [← nn]
    exact num_short n.toNat (by omega)
  refine ⟨_, rfl, _, rfl, by show 1 ≤ sizeLine; decide, fun q1 hq1 => ⟨q1, 19, _, rfl, rfl, upd_same, by decide, by decide, by show 1 * 19 ≤ sizeLine; decide, fun q2 hq2 => ?_⟩⟩
  rw [show (List.replicate (19 : Int).toNat [V.ref s]).flatten = List.replicate 19 (V.ref s) from flat_rep 19]
  have X2 := X1.trans ((XtN.new hq1).trans (.new (o := .lst (List.replicate 19 (V.ref s))) hq2))
  have dn : Dat (upd (upd HB q1 (.lst [V.ref s])) q2 (.lst (List.replicate 19 (V.ref s)))) (.ref s) (.list [.int n]) := .lst (X2 _ _ eN) rfl (one_at (.int n))
  refine ⟨z1, q2, _, rfl, dat_rep (((XtN.new hq1).trans (.new hq2)) _ _ ez) dn, dat_rep upd_same dn, sn, true, rfl, ?_⟩
  show (if (!true) = true then _ else _)
  rw [if_neg (by decide)]
  refine ⟨_, rfl, _, 1, rfl, .inl ⟨_, SqL.of (X2 _ _ eN), rfl⟩, rfl, ?_⟩
  refine ⟨false, by show V.bl (!decide (V.int ((1 : Nat) : Int) = V.int 1)) = _; rw [decide_eq_true (show V.int ((1 : Nat) : Int) = V.int 1 from rfl)]; rfl, ?_⟩
  show (if false = true then _ else _)
  rw [if_neg Bool.false_ne_true]
  generalize upd (upd HB q1 (.lst [V.ref s])) q2 (.lst (List.replicate 19 (V.ref s))) = HC at X2 ⊢
  clear dn hq2 hq1 ez X1 hz1 Q1 eL hD1
  dsimp only [tNext, tSeq, tAsg, tOp]
  refine lc_map (K := K) (xs := ms) (fun _ => some v) (fun a H2 => a = m ∧ H2 = HC) (fun a H2 p => ?_) (by rw [lM, sizeLine_eq]; omega) (fun R hR => ⟨_, rfl, m, rfl, ⟨_, SqL.of (X2 _ _ eM)⟩, hR m HC ⟨rfl, rfl⟩⟩) (fun a H2 p x hx H3 C Nx X4 h1 h2 => ?_) (fun a H2 p D2 hD2 => ?_)
  · obtain ⟨rfl, rfl⟩ := p
    exact SqL.of (X2 _ _ eM)
  · obtain ⟨rfl, rfl⟩ := p
    obtain ⟨a', D, nm, hC, rfl, F⟩ := AM x hx
    refine ⟨rfl, ?_⟩
    show tFld K "given" (tVar 8) _ _ C
    exact ⟨_, rfl, a', D, [("given", v)], v, rfl, hC.c0.ec, hC.no, F.xt (X2.trans X4), rfl, h2 _ rfl⟩
  obtain ⟨rfl, rfl⟩ := p
  have Q2 : XtN H2 (upd H2 D2 (.lst (ms.filterMap fun _ => some v))) := .new hD2
  have W2 := X2.trans Q2
  have eg := W2 _ _ Ag
  refine ⟨_, rfl, g, _, _, _, rfl, rfl, SqL.of eg, atI_nat (j := 0) rfl, w1, cl "NotWellRead", [("word", v), ("row", .ref s)], v, rfl, CL.nwr.c0.ec, CL.nwr.no2, F1.xt W2, rfl, ?_⟩
  refine ⟨_, rfl, g, _, _, _, rfl, rfl, SqL.of eg, atI_nat (j := 1) rfl, w2, cl "NotWellRead", [("word", .ref s), ("row", v)], v, rfl, CL.nwr.c0.ec, CL.nwr.no, F2.xt W2, rfl, ?_⟩
  refine ⟨_, rfl, g, _, _, _, rfl, rfl, SqL.of eg, atI_nat (j := 3) rfl, w4, cl "Barred", [("reason", v)], v, rfl, CL.bar.c0.ec, CL.bar.no, F4.xt W2, rfl, ?_⟩
  refine ⟨_, rfl, g, _, _, _, rfl, rfl, SqL.of eg, atI_nat (j := 5) rfl, w6, cl "InvalidDeed", [("index", v)], v, rfl, CL.dee.c0.ec, CL.dee.no, F6.xt W2, rfl, ?_⟩
  refine ⟨by show 4 ≤ sizeLine; decide, fun p1 hp1 => ⟨D2, p1, _, _, rfl, rfl, (XtN.new hp1) _ _ upd_same, upd_same, ?_, fun z2 hz2 => ?_⟩⟩
  · rw [fm_const, List.length_replicate, lM]
    show 15 + 4 ≤ sizeLine
    decide
  have eL : (ms.filterMap fun _ => some v) ++ [v, v, v, v] = List.replicate 19 v := by
    rw [fm_const, lM]
    rfl
  rw [eL]
  have X3 := W2.trans ((XtN.new hp1).trans (.new (o := .lst (List.replicate 19 v)) hz2))
  have ez := upd_same (H := upd (upd H2 D2 (.lst (ms.filterMap fun _ => some v))) p1 (.lst [v, v, v, v])) (a := z2) (o := .lst (List.replicate 19 v))
  clear eg hp1 W2 Q2 eL
  generalize upd (upd (upd H2 D2 (.lst (ms.filterMap fun _ => some v))) p1 (.lst [v, v, v, v])) z2 (.lst (List.replicate 19 v)) = HD at X3 ez ⊢
  refine ⟨_, rfl, _, rfl, by show 1 ≤ sizeLine; decide, fun q1 hq1 => ⟨q1, 19, _, rfl, rfl, upd_same, by decide, by decide, by show 1 * 19 ≤ sizeLine; decide, fun q2 hq2 => ?_⟩⟩
  rw [show (List.replicate (19 : Int).toNat [v]).flatten = List.replicate 19 v from flat_rep 19]
  have X4 := X3.trans ((XtN.new hq1).trans (.new (o := .lst (List.replicate 19 v)) hq2))
  have dn : Dat (upd (upd HD q1 (.lst [v])) q2 (.lst (List.replicate 19 v))) v d := (hd.xt X4).dat
  refine ⟨z2, q2, _, rfl, dat_rep (((XtN.new hq1).trans (.new hq2)) _ _ ez) dn, dat_rep upd_same dn, hd.short, true, rfl, ?_⟩
  show (if (!true) = true then _ else _)
  rw [if_neg (by decide)]
  generalize upd (upd HD q1 (.lst [v])) q2 (.lst (List.replicate 19 v)) = HE at X4 ⊢
  clear dn hq2 hq1 ez X3 hz2 hD2 X2
  dsimp only [tNext, tSeq, tAsg, tOp]
  refine ⟨_, rfl, _, rfl, _, _, _, _, rfl, rfl, X4 _ _ eB, X4 _ _ eM, by rw [lB, lM]; decide, fun u1 hu1 => ⟨_, rfl, u1, g, _, _, rfl, rfl, upd_same, (XtN.new hu1) _ _ (X4 _ _ Ag), ?_, fun u2 hu2 => ?_⟩⟩
  · rw [List.length_append, lB, lM]
    show 15 + 15 + 6 ≤ sizeLine
    decide
  refine fun a1 K1 Z1 e1 a2 K2 Z2 e2 a3 K3 Z3 e3 a4 K4 Z4 e4 => ⟨by show 4 ≤ sizeLine; decide, fun u3 hu3 => ⟨u2, u3, _, _, rfl, rfl, (Z1.trans (Z2.trans (Z3.trans (Z4.trans (.new hu3))))) _ _ upd_same, upd_same, ?_, fun u4 hu4 => ?_⟩⟩
  · rw [List.length_append, List.length_append, lB, lM]
    show 15 + 15 + 6 + 4 ≤ sizeLine
    decide
  have T4 := (XtN.new hu3).trans (XtN.new (o := .lst (((bs ++ ms) ++ ([V.ref w1, V.ref w2, V.ref w3, V.ref w4] ++ [V.ref w5, V.ref w6])) ++ [V.ref a1, V.ref a2, V.ref a3, V.ref a4])) hu4)
  have T3 := Z4.trans T4
  have T2 := Z3.trans T3
  have T1 := Z2.trans T2
  have X5 := X4.trans ((XtN.new hu1).trans ((XtN.new hu2).trans (Z1.trans T1)))
  have e1 := T1 _ _ e1
  have e2 := T2 _ _ e2
  have e3 := T3 _ _ e3
  have e4 := T4 _ _ e4
  have eE := upd_same (H := upd K4 u3 (.lst [V.ref a1, V.ref a2, V.ref a3, V.ref a4])) (a := u4) (o := .lst (((bs ++ ms) ++ ([V.ref w1, V.ref w2, V.ref w3, V.ref w4] ++ [V.ref w5, V.ref w6])) ++ [V.ref a1, V.ref a2, V.ref a3, V.ref a4]))
  clear T4 T3 T2 T1 Z1 Z2 Z3 Z4 hu1 hu2 hu3 hu4
  generalize upd (upd K4 u3 (.lst [V.ref a1, V.ref a2, V.ref a3, V.ref a4])) u4 (.lst (((bs ++ ms) ++ ([V.ref w1, V.ref w2, V.ref w3, V.ref w4] ++ [V.ref w5, V.ref w6])) ++ [V.ref a1, V.ref a2, V.ref a3, V.ref a4])) = HF at X5 e1 e2 e3 e4 eE ⊢
  have all : ∀ u ∈ ((bs ++ ms) ++ ([V.ref w1, V.ref w2, V.ref w3, V.ref w4] ++ [V.ref w5, V.ref w6])) ++ [V.ref a1, V.ref a2, V.ref a3, V.ref a4], ∃ a D nm, u = .ref a ∧ Obx HF a D ∧ C0 K mg nm D (cl "DutyError") := by
    intro u hu
    rcases List.mem_append.mp hu with hu | hu
    · rcases List.mem_append.mp hu with hu | hu
      · rcases List.mem_append.mp hu with hu | hu
        · obtain ⟨a, D, nm, hC, e, F⟩ := AB u hu
          exact ⟨a, D, nm, e, .inl ⟨_, F.xt X5⟩, hC.c0⟩
        · obtain ⟨a, D, nm, hC, e, F⟩ := AM u hu
          exact ⟨a, D, nm, e, .inl ⟨_, F.xt X5⟩, hC.c0⟩
      · simp only [List.cons_append, List.nil_append, List.mem_cons, List.not_mem_nil, or_false] at hu
        rcases hu with rfl | rfl | rfl | rfl | rfl | rfl
        · exact ⟨_, _, _, rfl, .inl ⟨_, F1.xt X5⟩, CL.nwr.c0⟩
        · exact ⟨_, _, _, rfl, .inl ⟨_, F2.xt X5⟩, CL.nwr.c0⟩
        · exact ⟨_, _, _, rfl, .inl ⟨_, F3.xt X5⟩, CL.bar.c0⟩
        · exact ⟨_, _, _, rfl, .inl ⟨_, F4.xt X5⟩, CL.bar.c0⟩
        · exact ⟨_, _, _, rfl, .inl ⟨_, F5.xt X5⟩, CL.dee.c0⟩
        · exact ⟨_, _, _, rfl, .inl ⟨_, F6.xt X5⟩, CL.dee.c0⟩
    · simp only [List.mem_cons, List.not_mem_nil, or_false] at hu
      rcases hu with rfl | rfl | rfl | rfl
      · exact ⟨_, _, _, rfl, .inr e1, (CL.c0 _ (by simp)).1⟩
      · exact ⟨_, _, _, rfl, .inr e2, (CL.c0 _ (by simp)).1⟩
      · exact ⟨_, _, _, rfl, .inr e3, (CL.c0 _ (by simp)).1⟩
      · exact ⟨_, _, _, rfl, .inr e4, (CL.c0 _ (by simp)).1⟩
  have lE : (((bs ++ ms) ++ ([V.ref w1, V.ref w2, V.ref w3, V.ref w4] ++ [V.ref w5, V.ref w6])) ++ [V.ref a1, V.ref a2, V.ref a3, V.ref a4]).length = 40 := by
    rw [List.length_append, List.length_append, List.length_append, lB, lM]
    rfl
  generalize ((bs ++ ms) ++ ([V.ref w1, V.ref w2, V.ref w3, V.ref w4] ++ [V.ref w5, V.ref w6])) ++ [V.ref a1, V.ref a2, V.ref a3, V.ref a4] = es at all lE eE ⊢
  dsimp only [gName, tRet, tOp]
  refine lc_map (K := K) (xs := es) (fun _ => none) (fun a H2 => a = u4 ∧ H2 = HF) (fun a H2 p => ?_) (by rw [lE, sizeLine_eq]; omega) (fun R hR => ⟨_, rfl, u4, rfl, ⟨_, SqL.of eE⟩, hR u4 HF ⟨rfl, rfl⟩⟩) (fun a H2 p x hx H3 C Nx X6 h1 h2 => ?_) (fun a H2 p D2 hD2 => ?_)
  · obtain ⟨rfl, rfl⟩ := p
    exact SqL.of eE
  · obtain ⟨rfl, rfl⟩ := p
    obtain ⟨a', D, nm, rfl, hO, hC⟩ := all x hx
    have hO := hO.xt X6
    refine ⟨rfl, ?_⟩
    refine ⟨_, rfl, a', D, _, _, true, rfl, hO, hC.ec, hC.ei, .own _, hC.kU, true, rfl, ?_⟩
    show (if (!true) = true then _ else _)
    rw [if_neg (by decide)]
    refine ⟨_, rfl, a', D, _, _, true, rfl, hO, hC.ec, hC.ei, .ty _, hC.kE, true, rfl, ?_⟩
    show (if (!true) = true then _ else _)
    rw [if_neg (by decide)]
    exact h1 rfl
  obtain ⟨rfl, rfl⟩ := p
  rw [fm_none]
  refine ⟨by decide, fun q1 hq1 => ⟨.list [], .list [], .lst (SqL.of ((XtN.new hq1) _ _ upd_same)) .nil, .lst (SqL.of upd_same) .nil, by decide, by decide, ?_⟩⟩
  have ev : PyData.eqv (.list []) (.list []) = true := by decide
  rw [ev]
  exact q _ (X5.trans ((XtN.new hD2).trans (.new hq1)))
end
end Ex

/-! k01: _law_do_keep, whole. -/
namespace Ex
open PySem PySem.Spec L2
open PyProof.Rows hiding St
section
variable {P : Program} {w : World} {K : PySem.W.Frag} {mg : Str → Option Value} {base : Heap} {cl : Str → Addr} {f fO fC fL : Addr} {fd fdO fdC fdL : FuncData}
theorem ok_keep (F : FnP K "_law_do_keep" sKeep f fd) (CL : Cls P w K mg base cl) (FO : FnP K "_law_one_of" sOne fO fdO) (FC : FnP K "_law_call" sCall fC fdC) (FL : FnP K "_law_like" sLike fL fdL)
    (gO : mg "_law_one_of" = some (.ref fO)) (gC : mg "_law_call" = some (.ref fC)) (gL : mg "_law_like" = some (.ref fL)) (gD : mg "divmod" = none) (gI : mg "int" = none) (gN : mg "len" = none) (gR : mg "repr" = none) (gS : mg "isinstance" = none) (gE : mg "Exception" = none)
    (hS : ∃ o, K.lookup sysModules = some o ∧ o.cls = .type "dict") : FnG P w K mg base CX0 3 f fd ["court"] spKeep := by
  have GO : FnOk P w K mg base CX0 2 fO fdO ["court", "some"] spOne := ok_one FO FC gC gD gI gN
  have GC : FnOk P w K mg base CX0 1 fC fdC ["court", "many"] spCall := ok_call FC gD gI
  have GL : FnG P w K mg base CX0 1 fL fdL ["seen", "due"] spLike := ok_like FL gR hS
  have bO : Binds K fdO ["court", "some"] [] := FO.bindsN fun _ _ _ _ _ _ us hl => match us, hl with | [_, _], _ => rfl
  have bC : Binds K fdC ["court", "many"] [] := FC.bindsN fun _ _ _ _ _ _ us hl => match us, hl with | [_, _], _ => rfl
  have bL : Binds K fdL ["seen", "due"] [] := FL.bindsN fun _ _ _ _ _ _ us hl => match us, hl with | [_, _], _ => rfl
  refine okG F scKeep (fun vs H Q E h => ?_) (fun cdv A hA outer s H vs Q E hr h => ?_)
  · obtain ⟨c, r, h, rfl, _⟩ := h
    rfl
  · obtain ⟨t2, ht2, hq2⟩ := keep_tail CL FL gL gN gR gS gE hS cdv A hA outer s H E hr
    have hu := hu_of hr
    have hu64 := hr.units
    have nd := scKeep.nd
    have r1 := hr.mono (show 1 ≤ 2 by decide)
    refine ⟨_, pss_cons (ps_par (i := 1) (j := 2) (by rfl) nd rfl rfl (by decide) rfl rfl (pa_cons (pe_lst pa_nil) (pa_cons (pe_call GO hr rfl gO FO.kp bO .nil pass0 (pa_cons (pv 0) (pa_cons (pe_lst
        (pa_cons pe_non (pa_cons pe_int (pa_cons pe_str (pa_cons (pe_tup pa_nil) (pa_cons (pe_tup (pa_cons pe_int (pa_cons pe_int pa_nil))) (pa_cons (pe_disp (pps_cons pe_str pe_int pps_nil) (by rfl) (by rfl) (fun z => by cases z) (by decide))
          (pa_cons pe_bl (pa_cons (pe_un un_neg pe_int) (pa_cons (pe_op op_pow pe_int pe_int) (pa_cons (pe_lst (pa_cons pe_int pa_nil)) (pa_cons (pe_tup (pa_cons pe_str (pa_cons pe_int pa_nil))) pa_nil)))))))))))) pa_nil))) pa_nil)) (by rfl))
      (pss_cons (ps_first (i := 3) nd rfl (Or.inl rfl) ((pa_mkS (pe_c1 (CL.c1 _ (by simp)) hr rfl (pv 1)) (pa_mkS (pe_c1 (CL.c1 _ (by simp)) hr rfl (pv 1)) (pa_mkS (pe_c1 (CL.c1 _ (by simp)) hr rfl (pv 1)) (pa_mkS (pe_c1 (CL.c1 _ (by simp)) hr rfl (pv 1)) (pa_mkS (pe_c1 (CL.c1 _ (by simp)) hr rfl (pv 1)) pa_mk0)))))) (Or.inr rfl))
      (pss_cons (ps_next ([cl "InvalidText", cl "InvalidBook", cl "InvalidTree", cl "InvalidName", cl "InvalidCode"]) (i := 3) nd rfl (Or.inl rfl) (Or.inl rfl) (by decide) (by decide) (((pa_mkS (pe_c1 (CL.c1 _ (by simp)) hr rfl (pv 1)) (pa_mkS (pe_c1 (CL.c1 _ (by simp)) hr rfl (pv 1)) (pa_mkS (pe_c1 (CL.c1 _ (by simp)) hr rfl (pv 1)) (pa_mkS (pe_c1 (CL.c1 _ (by simp)) hr rfl (pv 1)) pa_mk0)))))) (Or.inr rfl))
      (pss_cons (ps_next ([cl "InvalidText", cl "InvalidBook", cl "InvalidTree", cl "InvalidName", cl "InvalidCode", cl "InvalidWhole", cl "InvalidWay", cl "InvalidLot", cl "InvalidDerivation"]) (i := 3) nd rfl (Or.inl rfl) (Or.inl rfl) (by decide) (by decide) (((pa_mkS (pe_c1 (CL.c1 _ (by simp)) hr rfl (pv 1)) (pa_mkS (pe_c1 (CL.c1 _ (by simp)) hr rfl (pv 1)) (pa_mkS (pe_c1 (CL.c1 _ (by simp)) hr rfl (pv 1)) (pa_mkS (pe_c1 (CL.c1 _ (by simp)) hr rfl (pv 1)) pa_mk0)))))) (Or.inr rfl))
      (pss_cons (ps_next ([cl "InvalidText", cl "InvalidBook", cl "InvalidTree", cl "InvalidName", cl "InvalidCode", cl "InvalidWhole", cl "InvalidWay", cl "InvalidLot", cl "InvalidDerivation", cl "InvalidProof", cl "InvalidTable", cl "InvalidSteps", cl "InvalidNumber"]) (i := 3) nd rfl (Or.inl rfl) (Or.inl rfl) (by decide) (by decide) (((pa_mkS (pe_c1 (CL.c1 _ (by simp)) hr rfl (pv 1)) (pa_mkS (pe_c1 (CL.c1 _ (by simp)) hr rfl (pv 1)) pa_mk0)))) (Or.inr rfl))
      (pss_cons (ps_first (i := 4) nd rfl (Or.inl rfl) ((pa_mkS (pe_c1K (CL.c1 _ (by simp)) hr rfl (pv 2)) (pa_mkS (pe_c1K (CL.c1 _ (by simp)) hr rfl (pv 2)) (pa_mkS (pe_c1K (CL.c1 _ (by simp)) hr rfl (pv 2)) (pa_mkS (pe_c1K (CL.c1 _ (by simp)) hr rfl (pv 2)) pa_mk0))))) (Or.inr rfl))
      (pss_cons (ps_next ([cl "InvalidText", cl "InvalidBook", cl "InvalidTree", cl "InvalidName"]) (i := 4) nd rfl (Or.inl rfl) (Or.inl rfl) (by decide) (by decide) (((pa_mkS (pe_c1K (CL.c1 _ (by simp)) hr rfl (pv 2)) (pa_mkS (pe_c1K (CL.c1 _ (by simp)) hr rfl (pv 2)) (pa_mkS (pe_c1K (CL.c1 _ (by simp)) hr rfl (pv 2)) (pa_mkS (pe_c1K (CL.c1 _ (by simp)) hr rfl (pv 2)) pa_mk0)))))) (Or.inr rfl))
      (pss_cons (ps_next ([cl "InvalidText", cl "InvalidBook", cl "InvalidTree", cl "InvalidName", cl "InvalidCode", cl "InvalidWhole", cl "InvalidWay", cl "InvalidLot"]) (i := 4) nd rfl (Or.inl rfl) (Or.inl rfl) (by decide) (by decide) (((pa_mkS (pe_c1K (CL.c1 _ (by simp)) hr rfl (pv 2)) (pa_mkS (pe_c1K (CL.c1 _ (by simp)) hr rfl (pv 2)) (pa_mkS (pe_c1K (CL.c1 _ (by simp)) hr rfl (pv 2)) pa_mk0))))) (Or.inr rfl))
      (pss_cons (ps_next ([cl "InvalidText", cl "InvalidBook", cl "InvalidTree", cl "InvalidName", cl "InvalidCode", cl "InvalidWhole", cl "InvalidWay", cl "InvalidLot", cl "InvalidDerivation", cl "InvalidProof", cl "InvalidTable"]) (i := 4) nd rfl (Or.inl rfl) (Or.inl rfl) (by decide) (by decide) (((pa_mkS (pe_c1K (CL.c1 _ (by simp)) hr rfl (pv 2)) (pa_mkS (pe_c1K (CL.c1 _ (by simp)) hr rfl (pv 2)) (pa_mkS (pe_c1K (CL.c1 _ (by simp)) hr rfl (pv 2)) (pa_mkS (pe_c1K (CL.c1 _ (by simp)) hr rfl (pv 2)) pa_mk0)))))) (Or.inr rfl))
      (pss_cons (ps_set (i := 5) nd rfl (Or.inl rfl) (pe_lst (pa_cons (pe_c2 CL.nwr hr rfl (pv 1) (pv 2)) (pa_cons (pe_c2K CL.nwr hr rfl (pv 1) (pv 2)) (pa_cons (pe_c1 CL.bar hr rfl (pv 1)) (pa_cons (pe_c1K CL.bar hr rfl (pv 2)) pa_nil))))))
      (pss_cons (ps_set (i := 5) nd rfl (Or.inl rfl) (pe_op op_cat (pv 5) (pe_lst (pa_cons (pe_c1 CL.dee hr rfl (pv 1)) (pa_cons (pe_c1K CL.dee hr rfl (pv 2)) pa_nil)))))
      (pss_cons (ps_expr (pe_bm PySem.F.plainAttrs_list PySem.F.slot_list_append PySem.F.type_list_append mt_append (pv 1) (pa_cons (pe_call GC r1 rfl gC FC.kp bC .nil pass0 (pa_cons (pv 0) (pa_cons pe_int pa_nil))) pa_nil)))
      ht2))))))))))), ?_⟩
    obtain ⟨c, r, h, rfl, C, q⟩ := h
    refine ⟨by decide, fun s hs => ⟨_, rfl, by decide, fun t0 h0 => ⟨by decide, fun t1 h1 dk hdk => ⟨upd_same, [(.inr "k", .int 0)], rfl, by decide, ?_⟩⟩⟩⟩
    rw [upd_upd]
    refine ⟨_, rfl, _, _, rfl, rfl, ⟨by decide, by decide, by decide⟩, by decide, fun l8 h8 => ⟨by decide, fun a2 h2 => ⟨by show 11 ≤ sizeLine; decide, fun L hL => ?_⟩⟩⟩
    have x1 : XtN H (upd H s (.lst [])) := .new hs
    have x2 := XtN.new (o := .tup []) h0
    have x3 := XtN.new (o := .tup [.int 1, .int 3]) h1
    have x4 := XtN.new (o := .dK (mergeK [] [(.inr "k", .int 0)])) hdk
    have x5 := XtN.new (o := .lst [.int 8]) h8
    have x6 := XtN.new (o := .tup [.str "a", .int 2]) h2
    have x7 := XtN.new (o := .lst [.non, .int 31, .str "plain", .ref t0, .ref t1, .ref dk, .bl true, .int (-19), .int (10 ^ 17), .ref l8, .ref a2]) hL
    refine ⟨c, L, _, r, h, rfl, upd_same, by show 1 ≤ 11; decide, by show 11 < 1000; decide, ⟨(x1.trans (x2.trans (x3.trans (x4.trans (x5.trans (x6.trans x7)))))) _ _ C.at_, C.r0, C.r1, C.h0⟩, fun i v r' h' H' hv X C' => ⟨_, _, rfl, ?_⟩⟩
    have sc : s ≠ c := fun z => by
      rw [z, C.at_] at hs
      cases hs
    have y2 := x2.trans (x3.trans (x4.trans (x5.trans (x6.trans x7))))
    have XH : XtB H H' c := fun b o hb e => X b o hb ((x1.trans y2) b o e)
    have eS : H' s = some (.lst []) := X _ _ sc (y2 _ _ upd_same)
    obtain ⟨d, hd⟩ := seal_of ((x3.trans (x4.trans (x5.trans (x6.trans x7)))) _ _ upd_same) ((x4.trans (x5.trans (x6.trans x7))) _ _ upd_same) ((x5.trans (x6.trans x7)) _ _ upd_same) ((x6.trans x7) _ _ upd_same) (x7 _ _ upd_same) hv
    have hd := hd.mv (c := c) (s := s) ((x1.trans y2) _ _ C.at_) (y2 _ _ upd_same) (fun p o hp _ e => X p o hp e)
    clear x1 x2 x3 x4 x5 x6 x7 y2 hv X
    refine ⟨_, rfl, by simp, fun xs1 b1 H1 X1 e1 A1 => ?_⟩
    refine ⟨_, _, _, rfl, rfl, e1, A1, by simp, fun xs2 b2 H2 X2 e2 A2 => ?_⟩
    refine ⟨_, _, _, rfl, rfl, e2, A2, by simp, fun xs3 b3 H3 X3 e3 A3 => ?_⟩
    refine ⟨_, _, _, rfl, rfl, e3, A3, by simp, fun bs b H4 X4 eB AB => ?_⟩
    have Y4 : XtN H' H4 := X1.trans (X2.trans (X3.trans X4))
    clear e1 A1 e2 A2 e3 A3 X1 X2 X3 X4
    refine ⟨_, rfl, by simp, fun xs1 b1 H5 X1 e1 A1 => ?_⟩
    refine ⟨_, _, _, rfl, rfl, e1, A1, by simp, fun xs2 b2 H6 X2 e2 A2 => ?_⟩
    refine ⟨_, _, _, rfl, rfl, e2, A2, by simp, fun xs3 b3 H7 X3 e3 A3 => ?_⟩
    refine ⟨_, _, _, rfl, rfl, e3, A3, by simp, fun ms m H8 X4 eM AM => ?_⟩
    have Y8 : XtN H4 H8 := X1.trans (X2.trans (X3.trans X4))
    clear e1 A1 e2 A2 e3 A3 X1 X2 X3 X4
    have AB := AB.xt Y8
    have eB := Y8 _ _ eB
    have Y := Y4.trans Y8
    clear Y4 Y8
    refine ⟨_, rfl, _, rfl, fun w1 K1 Z1 F1 => ⟨_, rfl, _, rfl, fun w2 K2 Z2 F2 => ⟨_, rfl, fun w3 K3 Z3 F3 => ⟨_, rfl, fun w4 K4 Z4 F4 => ⟨by show 4 ≤ sizeLine; decide, fun p1 hp1 => ?_⟩⟩⟩⟩⟩
    refine ⟨_, rfl, _, rfl, fun w5 K5 Z5 F5 => ⟨_, rfl, fun w6 K6 Z6 F6 => ⟨by show 2 ≤ sizeLine; decide, fun p2 hp2 => ⟨p1, p2, _, _, rfl, rfl, (Z5.trans (Z6.trans (.new hp2))) _ _ upd_same, upd_same, by show 4 + 2 ≤ sizeLine; decide, fun g hg => ?_⟩⟩⟩⟩
    have T6 := (XtN.new hp2).trans (XtN.new (o := .lst ([V.ref w1, V.ref w2, V.ref w3, V.ref w4] ++ [V.ref w5, V.ref w6])) hg)
    have T5 := Z6.trans T6
    have T4 := (XtN.new hp1).trans (Z5.trans T5)
    have T3 := Z4.trans T4
    have T2 := Z3.trans T3
    have T1 := Z2.trans T2
    have T0 := Z1.trans T1
    have F1 := F1.xt T1
    have F2 := F2.xt T2
    have F3 := F3.xt T3
    have F4 := F4.xt T4
    have F5 := F5.xt T5
    have F6 := F6.xt T6
    have Ag := upd_same (H := upd K6 p2 (.lst [V.ref w5, V.ref w6])) (a := g) (o := .lst ([V.ref w1, V.ref w2, V.ref w3, V.ref w4] ++ [V.ref w5, V.ref w6]))
    have AB := AB.xt T0
    have eB := T0 _ _ eB
    have AM := AM.xt T0
    have eM := T0 _ _ eM
    have Y := Y.trans T0
    clear T0 T1 T2 T3 T4 T5 T6 Z1 Z2 Z3 Z4 Z5 Z6 hp1
    have hd := hd.xt Y
    have eS := Y _ _ eS
    have eC := Y _ _ C'.at_
    refine ⟨_, rfl, .inl ⟨rfl, _, SqL.of eS⟩, _, rfl, c, 90, r', h', rfl, by decide, by decide, ⟨eC, C'.r0, C'.r1, C'.h0⟩, fun n r2 h2 H9 n0 n1 XB C9 => ?_⟩
    refine ⟨s, _, _, rfl, rfl, XB _ _ sc eS, by decide, ?_⟩
    have M : ∀ {o : HO}, Mv (upd (upd K6 p2 (.lst [V.ref w5, V.ref w6])) g (.lst ([V.ref w1, V.ref w2, V.ref w3, V.ref w4] ++ [V.ref w5, V.ref w6]))) (upd H9 s o) c s := fun {o} p o' h1 h2 e => by
      rw [upd_ne h2]
      exact XB p o' h1 e
    have XF : ∀ {o : HO}, XtB H (upd H9 s o) c := fun {o} p o' hp e => by
      rw [upd_ne (ne_of_none e hs)]
      exact XB p o' hp (Y _ _ (XH p o' hp e))
    have F1 := F1.mv eC eS (M (o := .lst ([] ++ [V.int n])))
    have F2 := F2.mv eC eS (M (o := .lst ([] ++ [V.int n])))
    have F3 := F3.mv eC eS (M (o := .lst ([] ++ [V.int n])))
    have F4 := F4.mv eC eS (M (o := .lst ([] ++ [V.int n])))
    have F5 := F5.mv eC eS (M (o := .lst ([] ++ [V.int n])))
    have F6 := F6.mv eC eS (M (o := .lst ([] ++ [V.int n])))
    have nB : bs ≠ [] := fun z => by
      rw [z] at AB
      have z2 := AB.1
      simp at z2
    have nM : ms ≠ [] := fun z => by
      rw [z] at AM
      have z2 := AM.1
      simp at z2
    have eB := lst_mv eC eS (M (o := .lst ([] ++ [V.int n]))) nB eB
    have eM := lst_mv eC eS (M (o := .lst ([] ++ [V.int n]))) nM eM
    have Ag := lst_mv eC eS (M (o := .lst ([] ++ [V.int n]))) (by simp) Ag
    have AB := AB.mv eC eS (M (o := .lst ([] ++ [V.int n])))
    have AM := AM.mv eC eS (M (o := .lst ([] ++ [V.int n])))
    have hd := hd.mv eC eS (M (o := .lst ([] ++ [V.int n])))
    have XF := XF (o := .lst ([] ++ [V.int n]))
    have eN : (upd H9 s (.lst ([] ++ [V.int n]))) s = some (.lst [.int n]) := upd_same
    clear M XB eS eC Y XH hp2 hg C9
    generalize upd H9 s (HO.lst ([] ++ [V.int n])) = HA at F1 F2 F3 F4 F5 F6 eB eM Ag AB AM hd XF eN ⊢
    have lB := AB.1
    have lM := AM.1
    have AB : ∀ u ∈ bs, ∃ a D nm, C1 P w K mg base nm "given" D (cl "DutyError") ∧ u = .ref a ∧ Fld HA a D [("given", .ref s)] := fun u hu => by
      obtain ⟨a, D, hD, e, F⟩ := AB.2 u hu
      simp only [List.cons_append, List.nil_append, List.mem_cons, List.not_mem_nil, or_false] at hD
      rcases hD with rfl | rfl | rfl | rfl | rfl | rfl | rfl | rfl | rfl | rfl | rfl | rfl | rfl | rfl | rfl <;> exact ⟨a, _, _, CL.c1 _ (by simp), e, F⟩
    have AM : ∀ u ∈ ms, ∃ a D nm, C1 P w K mg base nm "given" D (cl "DutyError") ∧ u = .ref a ∧ Fld HA a D [("given", v)] := fun u hu => by
      obtain ⟨a, D, hD, e, F⟩ := AM.2 u hu
      simp only [List.cons_append, List.nil_append, List.mem_cons, List.not_mem_nil, or_false] at hD
      rcases hD with rfl | rfl | rfl | rfl | rfl | rfl | rfl | rfl | rfl | rfl | rfl | rfl | rfl | rfl | rfl <;> exact ⟨a, _, _, CL.c1 _ (by simp), e, F⟩
    simp only [List.length_append, List.length_cons, List.length_nil] at lB lM
    exact hq2 _ HA c s g b m v d n bs ms w1 w2 w3 w4 w5 w6 hd n0 n1 eN Ag eB eM lB lM AB AM F1 F2 F3 F4 F5 F6 (fun H' X' => q H' (fun p o hp e => X' _ _ (XF p o hp e)))
end
end Ex

/-! k01: the law; what the top leaves. -/
namespace Ex
open PySem PySem.Spec L2
open PyProof.Rows hiding St

abbrev sLaw : Stmt := top 29
theorem scLaw : FnScope ["cells"] ["cells"] (defScope sLaw) := ⟨rfl, rfl, rfl, by decide +kernel, rfl, by decide +kernel, by decide +kernel⟩
def spLaw (K : PySem.W.Frag) : Sp := fun vs H Q _ => ∃ (a : Addr) (ns : List Int), vs = [.ref a] ∧ SqL K H a (ns.map V.int) ∧ ns.length ≤ 1000 ∧ ∀ H', Q (.bl true) H'
theorem sql_xb {K : PySem.W.Frag} {H H1 H2 : Hp} {a c : Addr} {xs : List V} (h : SqL K H a xs) (n : H c = none) (x : XtN H H1) (m : XtB H1 H2 c) : SqL K H2 a xs := by
  rcases h with (h | ⟨o, h⟩) | h
  · exact .inl (.inl (m _ _ (ne_of_none h n) (x _ _ h)))
  · exact .inl (.inr ⟨o, m _ _ (ne_of_none h n) (x _ _ h)⟩)
  · exact .inr h
section
variable {P : Program} {w : World} {K : PySem.W.Frag} {mg : Str → Option Value} {base : Heap} {f fK fT : Addr} {fd fdK fdT : FuncData}
theorem ok_law (F : FnP K "law" sLaw f fd) (GK : FnG P w K mg base CX0 3 fK fdK ["court"] spKeep) (FK : FnP K "_law_do_keep" sKeep fK fdK) (GT : FnOk P w K mg base CX0 1 fT fdT ["cells", "seat"] (spCourt K)) (FT : FnP K "_law_court" sCourt fT fdT)
    (gK : mg "_law_do_keep" = some (.ref fK)) (gT : mg "_law_court" = some (.ref fT)) : FnG P w K mg base CX0 4 f fd ["cells"] (spLaw K) := by
  have bK : Binds K fdK ["court"] [] := FK.bindsN fun _ _ _ _ _ _ us hl => match us, hl with | [_], _ => rfl
  have bT : Binds K fdT ["cells", "seat"] [] := FT.bindsN fun _ _ _ _ _ _ us hl => match us, hl with | [_, _], _ => rfl
  refine okG F scLaw (fun vs H Q E h => ?_) (fun cdv A hA outer s H vs Q E hr h => ?_)
  · obtain ⟨a, ns, rfl, _⟩ := h
    rfl
  · have r1 := hr.mono (show 1 ≤ 3 by decide)
    refine ⟨_, pss_one (ps_ret (pe_and (pe_callG hA GK hr rfl gK FK.kp bK .nil pass0 (pa_cons (pe_call GT r1 rfl gT FT.kp bT .nil pass0 (pa_cons (pv 0) (pa_cons pe_int pa_nil))) pa_nil))
      (pe_one (pe_callG hA GK hr rfl gK FK.kp bK .nil pass0 (pa_cons (pe_call GT r1 rfl gT FT.kp bT .nil pass0 (pa_cons (pv 0) (pa_cons pe_int pa_nil))) pa_nil))))), ?_⟩
    obtain ⟨a, ns, rfl, hS, hz, q⟩ := h
    refine ⟨_, rfl, a, 0, ns, rfl, by decide, hS, hz, fun c r h H1 X1 n1 C1 => ⟨c, r, h, rfl, C1, fun H2 B2 => ⟨true, rfl, ?_⟩⟩⟩
    show (if true = true then _ else _)
    rw [if_pos rfl]
    exact ⟨_, rfl, a, 1, ns, rfl, by decide, sql_xb hS n1 X1 B2, hz, fun c' r' h' H3 X3 n3 C3 => ⟨c', r', h', rfl, C3, fun H4 _ => q H4⟩⟩
end
end Ex

/-! k01: what the written part says, decided. -/
namespace Ex
open PySem PySem.Spec L2
open PyProof.Rows hiding St

def names1 : List Str := ["InvalidText", "InvalidBook", "InvalidTree", "InvalidName", "InvalidCode", "InvalidWhole", "InvalidWay", "InvalidLot", "InvalidDerivation", "InvalidProof", "InvalidTable", "InvalidSteps", "InvalidNumber", "InvalidLine", "NotADesk"]
def names0 : List Str := ["NotOwed", "NoCode", "TooGreat", "DutyError"]
/-- the class statement's __init__ -/
def iniOf (i : Nat) : Stmt := match top i with
  | .ClassDef (body := b) .. => b.getD 0 (.Pass ⟨0, 0, 0, 0⟩)
  | _ => .Pass ⟨0, 0, 0, 0⟩
/-- a class with its own __init__: its name, its fields, its place in the text -/
def inis : List (Str × List Str × Nat) := [("InvalidText", ["given"], 7), ("InvalidBook", ["given"], 8), ("InvalidTree", ["given"], 9), ("InvalidName", ["given"], 10), ("InvalidCode", ["given"], 11), ("InvalidWhole", ["given"], 12), ("InvalidWay", ["given"], 13), ("InvalidLot", ["given"], 14),
  ("InvalidDerivation", ["given"], 15), ("InvalidProof", ["given"], 16), ("InvalidTable", ["given"], 17), ("InvalidSteps", ["given"], 18), ("InvalidNumber", ["given"], 19), ("InvalidLine", ["given"], 20), ("NotADesk", ["given"], 21), ("Barred", ["reason"], 3), ("InvalidDeed", ["index"], 22), ("NotWellRead", ["row", "word"], 2)]
abbrev FnV : Type := Option (Str × Str × Arguments × FuncBody × Scope × Addr × List Str × Addr)
def fnV (K : PySem.W.Frag) (nm : Str) : FnV := match K.lookup (He.ma K (He.ga K nm) "__init__") with
  | some ⟨_, _, .func fd, _⟩ => some (fd.name, fd.qualname, fd.params, fd.body, fd.scope, fd.globals, fd.closure.map (·.1), fd.builtins)
  | _ => none
def valV' (p : Str × List Str × Nat) : FnV := some ("__init__", p.1 ++ ".__init__", defArgs (iniOf p.2.2), .stmts (defBody (iniOf p.2.2)), defScope (iniOf p.2.2), mainGlobals, ["__class__"], builtinsNs)
def c0B (K : PySem.W.Frag) (nm : Str) : Bool := ecB K (He.ga K nm) && (eiB K (He.ga K nm) && (decide (PySem.W.nsIn K mainGlobals nm = some (some (.ref (He.ga K nm)))) &&
  (decide (PySem.W.kitOne K (.ref (He.ga K nm)) (.ref (He.ga K "DutyError")) = some true) && decide (PySem.W.kitOne K (.ref (He.ga K nm)) (.type "Exception") = some true))))
def iniB (K : PySem.W.Frag) (prog : Program) (nm : Str) (fs : List Str) : Bool := c0B K nm && (fs.all (fun x => decide (PySem.W.findIn K (.ref (He.ga K nm)) x = some none)) &&
  (decide (PySem.W.findIn K (.ref (He.ga K nm)) "__init__" = some (some (.ref (He.ma K (He.ga K nm) "__init__")))) && (decide (PySem.W.typeIn K (.ref (He.ma K (He.ga K nm) "__init__")) = some (.type "function")) && (PySem.W.keepIn K (.ref (He.ma K (He.ga K nm) "__init__")) &&
  (decide (PySem.W.mroIn K (He.ga K nm) (.ref (He.ga K nm)) = some true) && (decide (PySem.W.ks_superIn K (He.ga K nm) (He.ga K nm) "__init__" = some (some (.builtin "Exception.__init__"))) &&
  match K.lookup (He.ma K (He.ga K nm) "__init__") with
  | some ⟨_, _, .func fd, _⟩ => decide (fd.defaults = .none) && (decide (fd.kwdefaults = .none) && (match fd.code, fd.closure with
    | .ref cda, [(_, cc)] => PySem.W.codeIn K (.ref cda) (nm ++ ".__init__") && ((match K.lookup cda with
      | some ⟨_, _, .fields vs, _⟩ => (match (vs[2]? : Option Value) with
        | some (Value.str file _) => ((prog.main.file : Str) == file)
        | _ => false)
      | _ => false) && (match K.lookup cc with
      | some ⟨_, _, .cell (some (.ref D)), _⟩ => decide (D = He.ga K nm)
      | _ => false))
    | _, _ => false))
  | _ => false))))))
def fa : List He.Fa := [.glo "_law_court", .glo "_law_call", .glo "_law_one_of", .glo "_law_like", .glo "_law_do_keep", .glo "law", .free "divmod", .free "int", .free "len", .free "repr", .free "isinstance", .free "Exception", .free "enumerate", .free "list", .free "abs", .free "super"]
def dfn (x : Str) (i : Nat) : He.DefD := ⟨(x, none), x, x, defArgs (top i), defBody (top i), defScope (top i), [], []⟩
def fn : List He.DefD := [dfn "_law_court" 24, dfn "_law_call" 25, dfn "_law_one_of" 26, dfn "_law_like" 27, dfn "_law_do_keep" 28, dfn "law" 29]
abbrev AlE : Type := Bool × List He.FnW × List FnV
abbrev prg : Program := PySem.Challenge.pw_dutytongue_k01_errors_keep_what_is_seale
def extB (K : PySem.W.Frag) : Bool := inis.all (fun p => iniB K prg p.1 p.2.1) && (names0.all (fun nm => c0B K nm && PySem.W.excIn K (He.ga K nm) exT "Exception.__new__") && (decide (PySem.W.nsIn K cStatics "thirdparty.any" = some none) && (match K.lookup sysModules with
  | some o => decide (o.cls = .type "dict")
  | none => false)))
def obsE (K : PySem.W.Frag) : AlE := ((fa.all fun f => f.ok K) && ((fn.all fun d => d.ok K) && extB K), fn.map fun d => He.fnW K d.at_, inis.map fun p => fnV K p.1)
def valE : AlE := (true, fn.map He.DefD.val, inis.map valV')
def frE (g : Addr → Option Obj) : PySem.W.Frag := He.frG g (He.asD g 4 ++ [cStatics, sysModules])
def hookE : PySem.W.Hook where
  α := AlE
  obs := fun s => obsE (frE s.heap.get?)
  val := fun _ => valE
  says := fun _ h => ∃ K : PySem.W.Frag, K.In h ∧ obsE K = valE
  of := fun _ _ e => ⟨_, He.frG_in, e⟩
  keeps := fun _ _ _ ⟨K, hK, c⟩ k => ⟨K, PySem.W.Frag.In.keeps hK k, c⟩
abbrev R : PySem.W.OpenRow := PySem.W.OpenLaw.row PySem.Challenge.rw_dutytongue_k01_errors_keep_what_is_seale
def ob (s : PySem.W.SharedT) : AlE := obsE (frE (HandSHeadRun.getT s))
theorem ob_eq (s : PySem.W.SharedT) : ob s = hookE.obs s.abs := by
  have e : HandSHeadRun.getT s = s.abs.heap.get? := funext (HandSHeadRun.getT_eq s)
  show obsE (frE (HandSHeadRun.getT s)) = obsE (frE s.abs.heap.get?)
  rw [e]
def loose : List Str := ["__name__", "DutyError", "NotWellRead", "Barred", "NotOwed", "NoCode", "TooGreat", "InvalidText", "InvalidBook", "InvalidTree", "InvalidName", "InvalidCode", "InvalidWhole", "InvalidWay", "InvalidLot", "InvalidDerivation", "InvalidProof", "InvalidTable", "InvalidSteps", "InvalidNumber", "InvalidLine", "NotADesk", "InvalidDeed", "_law_court", "_law_call", "_law_one_of", "_law_like", "_law_do_keep"]
end Ex

namespace Ex
open PySem PySem.Spec L2
open PyProof.Rows hiding St
theorem run (w : World) : HandSHeadRun.RunEq R (PySem.W.view R.prog [29]) hookE ob 6000 loose w := by
  intro os
  kernel_rfl
end Ex

/-! k01: the classes from the decided facts. -/
namespace Ex
open PySem PySem.Spec L2
open PyProof.Rows hiding St

theorem bb {a b : Bool} (h : (a && b) = true) : a = true ∧ b = true := Bool.and_eq_true_iff.mp h
section
variable {K : PySem.W.Frag} {h : Heap} {mg : Str → Option Value}
theorem c0_of (X : K.In h) (G : h.Ns mainGlobals mg) {nm : Str} (e : c0B K nm = true) : C0 K mg nm (He.ga K nm) (He.ga K "DutyError") := by
  unfold c0B at e
  obtain ⟨e1, e⟩ := bb e
  obtain ⟨e2, e⟩ := bb e
  obtain ⟨e3, e⟩ := bb e
  obtain ⟨e4, e5⟩ := bb e
  exact ⟨ecB_ok e1, eiB_ok e2, PySem.W.mg_of X G (of_decide_eq_true e3), of_decide_eq_true e4, of_decide_eq_true e5⟩
/-- what the facts say of a class with its own __init__ -/
structure Got (K : PySem.W.Frag) (mg : Str → Option Value) (nm : Str) (fs : List Str) (i : Nat) : Prop where
  c0 : C0 K mg nm (He.ga K nm) (He.ga K "DutyError")
  no : ∀ x ∈ fs, PySem.W.findIn K (.ref (He.ga K nm)) x = some none
  ini : PySem.W.findIn K (.ref (He.ga K nm)) "__init__" = some (some (.ref (He.ma K (He.ga K nm) "__init__")))
  typ : PySem.W.typeIn K (.ref (He.ma K (He.ga K nm) "__init__")) = some (.type "function")
  mro : PySem.W.mroIn K (He.ga K nm) (.ref (He.ga K nm)) = some true
  sup : PySem.W.ks_superIn K (He.ga K nm) (He.ga K nm) "__init__" = some (some (.builtin "Exception.__init__"))
  fd : ∃ (cc cda : Addr) (doc pm ct : Value) (an : Option Addr), Ini K prg mg "__init__" (nm ++ ".__init__") (defArgs (iniOf i)) (defBody (iniOf i)) (defScope (iniOf i)) (He.ma K (He.ga K nm) "__init__") (He.ga K nm)
    (PySem.W.fnX "__init__" (nm ++ ".__init__") (defArgs (iniOf i)) (defBody (iniOf i)) (defScope (iniOf i)) [("__class__", cc)] .none .none doc pm an (.ref cda) ct) cc cda
theorem got_of (X : K.In h) (G : h.Ns mainGlobals mg) {nm : Str} {fs : List Str} {i : Nat} (hb : iniB K prg nm fs = true) (hv : fnV K nm = valV' (nm, fs, i)) (gS : mg "super" = none) (hop : PySem.W.nsIn K cStatics "thirdparty.any" = some none) (hself : ∃ ar, ((defArgs (iniOf i)).posonlyargs ++ (defArgs (iniOf i)).args).head? = some ar ∧ ar.arg = ("self" : Str)) : Got K mg nm fs i := by
  unfold iniB at hb
  obtain ⟨e1, hb⟩ := bb hb
  obtain ⟨e2, hb⟩ := bb hb
  obtain ⟨e3, hb⟩ := bb hb
  obtain ⟨e4, hb⟩ := bb hb
  obtain ⟨e5, hb⟩ := bb hb
  obtain ⟨e6, hb⟩ := bb hb
  obtain ⟨e7, hb⟩ := bb hb
  have C := c0_of X G e1
  refine ⟨C, fun x hx => of_decide_eq_true (List.all_eq_true.mp e2 x hx), of_decide_eq_true e3, of_decide_eq_true e4, of_decide_eq_true e6, of_decide_eq_true e7, ?_⟩
  unfold fnV at hv
  cases q : K.lookup (He.ma K (He.ga K nm) "__init__") with
  | none =>
    rw [q] at hb
    cases hb
  | some o =>
    obtain ⟨oc, od, dt, osl⟩ := o
    rw [q] at hb hv
    cases dt with
    | func fd =>
      obtain ⟨n1, n2, n3, n4, n5, n6, n7, n8, n9, n10, n11, n12, n13, n14, n15⟩ := fd
      have hv2 : (some (n1, n2, n3, n4, n5, n6, n7.map (·.1), n15) : FnV) = (some (("__init__" : Str), (nm ++ ".__init__" : Str), defArgs (iniOf i), FuncBody.stmts (defBody (iniOf i)), defScope (iniOf i), mainGlobals, ([("__class__" : Str)] : List Str), builtinsNs) : FnV) := hv
      simp only [Option.some.injEq, Prod.mk.injEq] at hv2
      obtain ⟨h1, h2, h3, h4, h5, h6, h7, h8⟩ := hv2
      subst h1 h2 h3 h4 h5 h6 h8
      dsimp only at hb
      obtain ⟨k1, hb⟩ := bb hb
      obtain ⟨k2, hb⟩ := bb hb
      have k3 : n8 = Value.none := of_decide_eq_true k1
      have k4 : n9 = Value.none := of_decide_eq_true k2
      subst k3
      subst k4
      cases n7 with
      | nil => cases h7
      | cons pr tl =>
        cases tl with
        | cons a b =>
          have z := congrArg List.length h7
          simp at z
        | nil =>
          obtain ⟨nn, cc⟩ := pr
          have h7 : nn = ("__class__" : Str) := by
            have z : [nn] = [("__class__" : Str)] := h7
            exact (List.cons.inj z).1
          subst h7
          cases n13 with
          | ref cda =>
            obtain ⟨m1, hb⟩ := bb (show (PySem.W.codeIn K (.ref cda) (nm ++ ".__init__") && _) = true from hb)
            obtain ⟨m2, m3⟩ := bb hb
            refine ⟨cc, cda, n10, n11, n14, n12, ⟨⟨oc, od, n10, n11, n14, n12, osl, rfl, q⟩, m1, ⟨?_, ?_, ?_, ?_, gS, by decide +kernel, hop⟩, e5, of_decide_eq_true e4⟩⟩
            · obtain ⟨ar, a1, a2⟩ := hself
              exact ⟨oc, od, _, osl, ar, q, a1, a2⟩
            · cases z : K.lookup cda with
              | none =>
                rw [z] at m2
                cases m2
              | some o2 =>
                obtain ⟨o2c, o2d, o2t, o2s⟩ := o2
                rw [z] at m2
                cases o2t with
                | fields vs =>
                  dsimp only at m2
                  cases y : (vs[2]? : Option Value) with
                  | none =>
                    rw [y] at m2
                    cases m2
                  | some u =>
                    rw [y] at m2
                    cases u with
                    | str file tf => exact ⟨o2c, o2d, vs, o2s, file, tf, rfl, y, m2⟩
                    | _ => cases m2
                | _ => cases m2
            · cases z : K.lookup cc with
              | none =>
                rw [z] at m3
                cases m3
              | some o2 =>
                obtain ⟨o2c, o2d, o2t, o2s⟩ := o2
                rw [z] at m3
                cases o2t with
                | cell vo =>
                  cases vo with
                  | none => cases m3
                  | some u =>
                    cases u with
                    | ref D =>
                      have e := of_decide_eq_true (show decide (D = He.ga K nm) = true from m3)
                      subst e
                      exact ⟨o2c, o2d, o2s, rfl⟩
                    | _ => cases m3
                | _ => cases m3
            · obtain ⟨cd, z⟩ := Option.isSome_iff_exists.mp C.ei.cls
              exact ⟨cd, z⟩
          | _ => cases hb
    | _ => cases hb
end
section
variable {P : Program} {w : World} {K : PySem.W.Frag} {mg : Str → Option Value} {base : Heap} {nm x y : Str} {i : Nat} {p0 p1 p2 p3 p4 p5 p6 p7 p8 p9 q3 q6 q7 pos pos' : Pos}
theorem c1_of (g : Got K mg nm [x] i) (hbody : defBody (iniOf i) = [.Expr (.Call (.Attribute (.Call (.Name "super" p0) [] [] p1) "__init__" p2) [.Name x p3] [] pos) pos', .Assign [.Attribute (.Name "self" p4) x p5] (.Name x p6) p7])
    (hS : NdefX.nscB ["self", x, "__class__"] ["self", x] ["__class__"] (defScope (iniOf i)) = true) (hks : (defScope (iniOf i)).names.lookup ("super" : Str) = some .globalImplicit) (hd : (x == ("__debug__" : Str)) = false) (hcd : (x == ("__classdict__" : Str)) = false)
    (hb : ∀ (cl : List (Str × Addr)) (doc pm cd ct : Value) (an : Option Addr) (us : List Value), us.length = 2 → bindArgs (PySem.W.fnX "__init__" (nm ++ ".__init__") (defArgs (iniOf i)) (defBody (iniOf i)) (defScope (iniOf i)) cl .none .none doc pm an cd ct) ⟨us, []⟩ = pure ((["self", x] : List Str).zip us))
    (hk : ∀ (cl : List (Str × Addr)) (doc pm cd ct : Value) (an : Option Addr) (u v : Value), bindArgs (PySem.W.fnX "__init__" (nm ++ ".__init__") (defArgs (iniOf i)) (defBody (iniOf i)) (defScope (iniOf i)) cl .none .none doc pm an cd ct) ⟨[u], [(x, v)]⟩ = pure ([("self", u), (x, v)] : List (Str × Value)))
    (hc : ∀ env, ∃ pl : Sem Bool, eval (.Call (.Attribute (.Call (.Name "super" p0) [] [] p1) "__init__" p2) [.Name x p3] [] pos) env = (do
      let v ← attributeBase (.Call (.Name "super" p0) [] [] p1) "__init__" env (eval (.Call (.Name "super" p0) [] [] p1) env)
      standAt p2.atName
      let (f, first) ← holding [v] (getMethod v "__init__" pl)
      callWith pos f first (backTo pos (starEach ([.Name x p3]) env)) [])) :
    C1 prg w K mg base nm x (He.ga K nm) (He.ga K "DutyError") := by
  obtain ⟨cc, cda, doc, pm, ct, an, F⟩ := g.fd
  refine ⟨g.c0, g.no x (by simp), He.ma K (He.ga K nm) "__init__", _, g.ini, g.typ, ini1 (P := prg) (by rw [hbody] at F; exact F) (NdefX.nscope_by hS) g.c0.ec g.mro g.sup (g.no x (by simp)) hks hd hcd hc, fun s us hl => .of_eq ?_, fun s u v => .of_eq ?_⟩
  · rw [← hbody]
    exact hb _ _ _ _ _ _ us hl
  · rw [← hbody]
    exact hk _ _ _ _ _ _ u v
theorem c2_of (g : Got K mg nm [x, y] i) (hbody : defBody (iniOf i) = [.Expr (.Call (.Attribute (.Call (.Name "super" p0) [] [] p1) "__init__" p2) [.Name x p3, .Name y q3] [] pos) pos', .Assign [.Attribute (.Name "self" p4) x p5] (.Name x p6) p7, .Assign [.Attribute (.Name "self" p8) y p9] (.Name y q6) q7]) (hne : x ≠ y)
    (hS : NdefX.nscB ["self", x, y, "__class__"] ["self", x, y] ["__class__"] (defScope (iniOf i)) = true) (hks : (defScope (iniOf i)).names.lookup ("super" : Str) = some .globalImplicit) (hd : (x == ("__debug__" : Str)) = false) (hcd : (x == ("__classdict__" : Str)) = false) (hd2 : (y == ("__debug__" : Str)) = false) (hcd2 : (y == ("__classdict__" : Str)) = false)
    (hb : ∀ (cl : List (Str × Addr)) (doc pm cd ct : Value) (an : Option Addr) (us : List Value), us.length = 3 → bindArgs (PySem.W.fnX "__init__" (nm ++ ".__init__") (defArgs (iniOf i)) (defBody (iniOf i)) (defScope (iniOf i)) cl .none .none doc pm an cd ct) ⟨us, []⟩ = pure ((["self", x, y] : List Str).zip us))
    (hk : ∀ (cl : List (Str × Addr)) (doc pm cd ct : Value) (an : Option Addr) (u v z : Value), bindArgs (PySem.W.fnX "__init__" (nm ++ ".__init__") (defArgs (iniOf i)) (defBody (iniOf i)) (defScope (iniOf i)) cl .none .none doc pm an cd ct) ⟨[u], [(y, v), (x, z)]⟩ = pure ([("self", u), (x, z), (y, v)] : List (Str × Value)))
    (hc : ∀ env, ∃ pl : Sem Bool, eval (.Call (.Attribute (.Call (.Name "super" p0) [] [] p1) "__init__" p2) [.Name x p3, .Name y q3] [] pos) env = (do
      let v ← attributeBase (.Call (.Name "super" p0) [] [] p1) "__init__" env (eval (.Call (.Name "super" p0) [] [] p1) env)
      standAt p2.atName
      let (f, first) ← holding [v] (getMethod v "__init__" pl)
      callWith pos f first (backTo pos (starEach ([.Name x p3, .Name y q3]) env)) [])) :
    C2 prg w K mg base nm x y (He.ga K nm) (He.ga K "DutyError") := by
  obtain ⟨cc, cda, doc, pm, ct, an, F⟩ := g.fd
  refine ⟨g.c0, g.no x (by simp), g.no y (by simp), hne, He.ma K (He.ga K nm) "__init__", _, g.ini, g.typ, ini2 (P := prg) (by rw [hbody] at F; exact F) (NdefX.nscope_by hS) g.c0.ec g.mro g.sup (g.no x (by simp)) (g.no y (by simp)) hks hd hcd hd2 hcd2 hc, fun s us hl => .of_eq ?_, fun s u v z => .of_eq ?_⟩
  · rw [← hbody]
    exact hb _ _ _ _ _ _ us hl
  · rw [← hbody]
    exact hk _ _ _ _ _ _ u v z
end
end Ex

/-! k01: the end. -/
namespace Ex
open PySem PySem.Spec L2
open PyProof.Rows hiding St

theorem cls_all {w : World} {K : PySem.W.Frag} {h : Heap} {mg : Str → Option Value} (X : K.In h) (G : h.Ns mainGlobals mg) (gS : mg "super" = none) (e : obsE K = valE) (hop : PySem.W.nsIn K cStatics "thirdparty.any" = some none) (base : Heap) (hx : extB K = true) : Cls prg w K mg base (He.ga K) := by
  have hv : ∀ p ∈ inis, fnV K p.1 = valV' p := fun p hp => by
    have z : inis.map (fun p => fnV K p.1) = inis.map valV' := congrArg (fun q : AlE => q.2.2) e
    obtain ⟨k, hk⟩ := List.mem_iff_getElem?.mp hp
    have z2 : (inis.map (fun p => fnV K p.1))[k]? = (inis.map valV')[k]? := by rw [z]
    rw [List.getElem?_map, List.getElem?_map, hk] at z2
    exact Option.some.inj z2
  obtain ⟨hi, hx⟩ := bb hx
  obtain ⟨h0, _⟩ := bb hx
  have got : ∀ nm fs i, (nm, fs, i) ∈ inis → (∃ ar, ((defArgs (iniOf i)).posonlyargs ++ (defArgs (iniOf i)).args).head? = some ar ∧ ar.arg = ("self" : Str)) → Got K mg nm fs i := fun nm fs i hm hs =>
    got_of X G (List.all_eq_true.mp hi _ hm) (hv _ hm) gS hop hs
  refine ⟨fun nm hn => ?_, ?_, ?_, ?_, fun nm hn => ?_⟩
  · simp only [List.mem_cons, List.not_mem_nil, or_false] at hn
    rcases hn with rfl | rfl | rfl | rfl | rfl | rfl | rfl | rfl | rfl | rfl | rfl | rfl | rfl | rfl | rfl
    · exact c1_of (i := 7) (got _ _ _ (by simp [inis]) ⟨_, rfl, rfl⟩) rfl (by decide +kernel) (by decide +kernel) (by decide) (by decide) (fun _ _ _ _ _ _ us hl => match us, hl with | [_, _], _ => rfl) (fun _ _ _ _ _ _ _ _ => rfl) (fun _ => ⟨_, rfl⟩)
    · exact c1_of (i := 8) (got _ _ _ (by simp [inis]) ⟨_, rfl, rfl⟩) rfl (by decide +kernel) (by decide +kernel) (by decide) (by decide) (fun _ _ _ _ _ _ us hl => match us, hl with | [_, _], _ => rfl) (fun _ _ _ _ _ _ _ _ => rfl) (fun _ => ⟨_, rfl⟩)
    · exact c1_of (i := 9) (got _ _ _ (by simp [inis]) ⟨_, rfl, rfl⟩) rfl (by decide +kernel) (by decide +kernel) (by decide) (by decide) (fun _ _ _ _ _ _ us hl => match us, hl with | [_, _], _ => rfl) (fun _ _ _ _ _ _ _ _ => rfl) (fun _ => ⟨_, rfl⟩)
    · exact c1_of (i := 10) (got _ _ _ (by simp [inis]) ⟨_, rfl, rfl⟩) rfl (by decide +kernel) (by decide +kernel) (by decide) (by decide) (fun _ _ _ _ _ _ us hl => match us, hl with | [_, _], _ => rfl) (fun _ _ _ _ _ _ _ _ => rfl) (fun _ => ⟨_, rfl⟩)
    · exact c1_of (i := 11) (got _ _ _ (by simp [inis]) ⟨_, rfl, rfl⟩) rfl (by decide +kernel) (by decide +kernel) (by decide) (by decide) (fun _ _ _ _ _ _ us hl => match us, hl with | [_, _], _ => rfl) (fun _ _ _ _ _ _ _ _ => rfl) (fun _ => ⟨_, rfl⟩)
    · exact c1_of (i := 12) (got _ _ _ (by simp [inis]) ⟨_, rfl, rfl⟩) rfl (by decide +kernel) (by decide +kernel) (by decide) (by decide) (fun _ _ _ _ _ _ us hl => match us, hl with | [_, _], _ => rfl) (fun _ _ _ _ _ _ _ _ => rfl) (fun _ => ⟨_, rfl⟩)
    · exact c1_of (i := 13) (got _ _ _ (by simp [inis]) ⟨_, rfl, rfl⟩) rfl (by decide +kernel) (by decide +kernel) (by decide) (by decide) (fun _ _ _ _ _ _ us hl => match us, hl with | [_, _], _ => rfl) (fun _ _ _ _ _ _ _ _ => rfl) (fun _ => ⟨_, rfl⟩)
    · exact c1_of (i := 14) (got _ _ _ (by simp [inis]) ⟨_, rfl, rfl⟩) rfl (by decide +kernel) (by decide +kernel) (by decide) (by decide) (fun _ _ _ _ _ _ us hl => match us, hl with | [_, _], _ => rfl) (fun _ _ _ _ _ _ _ _ => rfl) (fun _ => ⟨_, rfl⟩)
    · exact c1_of (i := 15) (got _ _ _ (by simp [inis]) ⟨_, rfl, rfl⟩) rfl (by decide +kernel) (by decide +kernel) (by decide) (by decide) (fun _ _ _ _ _ _ us hl => match us, hl with | [_, _], _ => rfl) (fun _ _ _ _ _ _ _ _ => rfl) (fun _ => ⟨_, rfl⟩)
    · exact c1_of (i := 16) (got _ _ _ (by simp [inis]) ⟨_, rfl, rfl⟩) rfl (by decide +kernel) (by decide +kernel) (by decide) (by decide) (fun _ _ _ _ _ _ us hl => match us, hl with | [_, _], _ => rfl) (fun _ _ _ _ _ _ _ _ => rfl) (fun _ => ⟨_, rfl⟩)
    · exact c1_of (i := 17) (got _ _ _ (by simp [inis]) ⟨_, rfl, rfl⟩) rfl (by decide +kernel) (by decide +kernel) (by decide) (by decide) (fun _ _ _ _ _ _ us hl => match us, hl with | [_, _], _ => rfl) (fun _ _ _ _ _ _ _ _ => rfl) (fun _ => ⟨_, rfl⟩)
    · exact c1_of (i := 18) (got _ _ _ (by simp [inis]) ⟨_, rfl, rfl⟩) rfl (by decide +kernel) (by decide +kernel) (by decide) (by decide) (fun _ _ _ _ _ _ us hl => match us, hl with | [_, _], _ => rfl) (fun _ _ _ _ _ _ _ _ => rfl) (fun _ => ⟨_, rfl⟩)
    · exact c1_of (i := 19) (got _ _ _ (by simp [inis]) ⟨_, rfl, rfl⟩) rfl (by decide +kernel) (by decide +kernel) (by decide) (by decide) (fun _ _ _ _ _ _ us hl => match us, hl with | [_, _], _ => rfl) (fun _ _ _ _ _ _ _ _ => rfl) (fun _ => ⟨_, rfl⟩)
    · exact c1_of (i := 20) (got _ _ _ (by simp [inis]) ⟨_, rfl, rfl⟩) rfl (by decide +kernel) (by decide +kernel) (by decide) (by decide) (fun _ _ _ _ _ _ us hl => match us, hl with | [_, _], _ => rfl) (fun _ _ _ _ _ _ _ _ => rfl) (fun _ => ⟨_, rfl⟩)
    · exact c1_of (i := 21) (got _ _ _ (by simp [inis]) ⟨_, rfl, rfl⟩) rfl (by decide +kernel) (by decide +kernel) (by decide) (by decide) (fun _ _ _ _ _ _ us hl => match us, hl with | [_, _], _ => rfl) (fun _ _ _ _ _ _ _ _ => rfl) (fun _ => ⟨_, rfl⟩)
  · exact c1_of (i := 3) (got _ _ _ (by simp [inis]) ⟨_, rfl, rfl⟩) rfl (by decide +kernel) (by decide +kernel) (by decide) (by decide) (fun _ _ _ _ _ _ us hl => match us, hl with | [_, _], _ => rfl) (fun _ _ _ _ _ _ _ _ => rfl) (fun _ => ⟨_, rfl⟩)
  · exact c1_of (i := 22) (got _ _ _ (by simp [inis]) ⟨_, rfl, rfl⟩) rfl (by decide +kernel) (by decide +kernel) (by decide) (by decide) (fun _ _ _ _ _ _ us hl => match us, hl with | [_, _], _ => rfl) (fun _ _ _ _ _ _ _ _ => rfl) (fun _ => ⟨_, rfl⟩)
  · exact c2_of (i := 2) (got _ _ _ (by simp [inis]) ⟨_, rfl, rfl⟩) rfl (by decide) (by decide +kernel) (by decide +kernel) (by decide) (by decide) (by decide) (by decide) (fun _ _ _ _ _ _ us hl => match us, hl with | [_, _, _], _ => rfl) (fun _ _ _ _ _ _ _ _ _ => rfl) (fun _ => ⟨_, rfl⟩)
  · have z := List.all_eq_true.mp h0 nm hn
    obtain ⟨z1, z2⟩ := bb z
    exact ⟨c0_of X G z1, z2⟩
/-- the law's promise, from the facts -/
theorem facts {w : World} {K : PySem.W.Frag} {h : Heap} {mg : Str → Option Value} {f : Addr} (X : K.In h) (G : h.Ns mainGlobals mg) (hfa : mg ("law" : Str) = some (.ref f)) (c : obsE K = valE) :
    ∃ fd : FuncData, (∀ (s : Shared) (v : Value), BindsTo s fd ⟨[v], []⟩ [("cells", v)]) ∧ ∀ base : Heap, FnG prg w K mg base CX0 4 f fd ["cells"] (spLaw K) := by
  have c1 := congrArg (fun q : AlE => q.1) c
  obtain ⟨ca, c1⟩ := bb (show ((fa.all fun f => f.ok K) && ((fn.all fun d => d.ok K) && extB K)) = true from c1)
  obtain ⟨cb, cx⟩ := bb c1
  have cf : ∀ f ∈ fa, f.ok K = true := fun f hf => List.all_eq_true.mp ca f hf
  have cd : ∀ d ∈ fn, ∃ fd, FunD K d.name d.qual d.params d.body d.scope (d.dvs K) (d.kws K) (He.fAd K d.at_) fd := fun d hd => by
    have z : fn.map (fun d => He.fnW K d.at_) = fn.map He.DefD.val := congrArg (fun q : AlE => q.2.1) c
    obtain ⟨k, hk⟩ := List.mem_iff_getElem?.mp hd
    have z2 : (fn.map (fun d => He.fnW K d.at_))[k]? = (fn.map He.DefD.val)[k]? := by rw [z]
    rw [List.getElem?_map, List.getElem?_map, hk] at z2
    exact He.DefD.funD (Option.some.inj z2) (List.all_eq_true.mp cb d hd)
  have cx0 := cx
  obtain ⟨_, cx⟩ := bb cx
  obtain ⟨_, cx⟩ := bb cx
  obtain ⟨x1, x2⟩ := bb cx
  have hop := of_decide_eq_true x1
  have hS : ∃ o, K.lookup sysModules = some o ∧ o.cls = .type "dict" := by
    cases z : K.lookup sysModules with
    | none =>
      rw [z] at x2
      cases x2
    | some o =>
      rw [z] at x2
      exact ⟨o, rfl, of_decide_eq_true x2⟩
  obtain ⟨fd1, F1⟩ := cd (dfn "_law_court" 24) (by simp [fn])
  obtain ⟨fd2, F2⟩ := cd (dfn "_law_call" 25) (by simp [fn])
  obtain ⟨fd3, F3⟩ := cd (dfn "_law_one_of" 26) (by simp [fn])
  obtain ⟨fd4, F4⟩ := cd (dfn "_law_like" 27) (by simp [fn])
  obtain ⟨fd5, F5⟩ := cd (dfn "_law_do_keep" 28) (by simp [fn])
  obtain ⟨fd6, F6⟩ := cd (dfn "law" 29) (by simp [fn])
  have e := hfa.symm.trans (He.glo_ok X G (cf (.glo "law") (by simp [fa])))
  cases e
  have g1 := He.glo_ok X G (cf (.glo "_law_court") (by simp [fa]))
  have g2 := He.glo_ok X G (cf (.glo "_law_call") (by simp [fa]))
  have g3 := He.glo_ok X G (cf (.glo "_law_one_of") (by simp [fa]))
  have g4 := He.glo_ok X G (cf (.glo "_law_like") (by simp [fa]))
  have g5 := He.glo_ok X G (cf (.glo "_law_do_keep") (by simp [fa]))
  have f1 := He.free_ok X G (cf (.free "divmod") (by simp [fa]))
  have f2 := He.free_ok X G (cf (.free "int") (by simp [fa]))
  have f3 := He.free_ok X G (cf (.free "len") (by simp [fa]))
  have f4 := He.free_ok X G (cf (.free "repr") (by simp [fa]))
  have f5 := He.free_ok X G (cf (.free "isinstance") (by simp [fa]))
  have f6 := He.free_ok X G (cf (.free "Exception") (by simp [fa]))
  have f7 := He.free_ok X G (cf (.free "enumerate") (by simp [fa]))
  have f8 := He.free_ok X G (cf (.free "list") (by simp [fa]))
  have f9 := He.free_ok X G (cf (.free "abs") (by simp [fa]))
  have f10 := He.free_ok X G (cf (.free "super") (by simp [fa]))
  have b := FunD.bindsA (ps := ["cells"]) F6 fun _ _ _ _ _ _ us hl => match us, hl with | [_], _ => rfl
  exact ⟨fd6, fun s v => b s [v] rfl, fun base => ok_law F6 (ok_keep F5 (cls_all X G f10 c hop base cx0) F3 F2 F4 g3 g2 g4 f1 f2 f3 f4 f5 f6 hS) F5 (ok_court F1 f7 f8 f2 f9) F1 g5 g1⟩
end Ex
open PySem PySem.W PySem.Calls PyProof.Rows
theorem PySem.Challenge.cw_dutytongue_k01_errors_keep_what_is_seale_holds : PySem.Challenge.rw_dutytongue_k01_errors_keep_what_is_seale.Holds := by
  w_on; o_law
  refine HandSHeadRun.head_any (r := OpenLaw.row PySem.Challenge.rw_dutytongue_k01_errors_keep_what_is_seale) (q := view (OpenLaw.row PySem.Challenge.rw_dutytongue_k01_errors_keep_what_is_seale).prog [29]) (H := Ex.hookE) (ob := Ex.ob) (M := 6000) (loose := Ex.loose)
    (d := HandSHeadRun.topDef (OpenLaw.row PySem.Challenge.rw_dutytongue_k01_errors_keep_what_is_seale).prog 29) (kwd := []) Ex.ob_eq
    (by kernel_rfl) (fun s => by kernel_rfl) Ex.run (by kernel_rfl) (by kernel_rfl) (by kernel_rfl) (by rfl) (by first | assumption | decide +kernel) (by decide +kernel) ⟨rfl, rfl, rfl, rfl, rfl, by decide +kernel⟩ ?hw ?hc
  case hw => w_witness2
  case hc =>
    refine Ex.walkG (l := PySem.Challenge.rw_dutytongue_k01_errors_keep_what_is_seale) (n := 63) (k := 4) (x := "cells") (CX := L2.CX0) rfl (by decide) (by kernel_rfl) ⟨rfl, by decide, by decide⟩ ?F (fun _ _ _ _ z => z)
    intro w mg fa h Y G hmg0
    obtain ⟨K, KX, c⟩ := Y
    have hmg : mg ("law" : PySem.Str) = some (.ref fa) := by
      have e : (HandSHeadRun.topDef (OpenLaw.row PySem.Challenge.rw_dutytongue_k01_errors_keep_what_is_seale).prog 29).name = ("law" : PySem.Str) := by kernel_rfl
      rw [← e]
      exact hmg0
    obtain ⟨fd, hb, hF⟩ := Ex.facts (w := w) KX G hmg c
    exact ⟨K, fd, Ex.spLaw K, KX, hb, fun H a ns hl _ hS => ⟨a, ns, rfl, hS, by omega, fun _ => rfl⟩, fun base _ _ => hF base⟩

