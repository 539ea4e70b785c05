import PyProof.Rows.All
import Wide.All
import OpenK.AllK
import Wide.FinOn
import KE.KStateDown
import KE.KExcIs
import HandS.ForMost
import HandS.ForExc
import HandS.Evl
import HandS.Defaults
import HandS.IsInst
import HandS.ExcInit
import HandS.ExcIs
import HandS.ExcField
import HandS.Lambda
import HandS.EndTab
import HandS.CallSlots
import HandS.Head2
import HandS.HeadHook4
import HandS.HeadNt
import HandS.HeadWalk
import HandS.StrMore
import HandS.Flow
import PySem.Challenge.RW_bitmill_k26_any_blocks_mended
import KE.GoesEnum
import KE.GoesMore
import HandS.TupAny
import HandS.WideBits
import HandS.Walk
import HandS.Text
import HandS.NoneIn
import KE.KDictPairs
import KE.KDictLaw
import KE.KDictKeyed
import KE.KeyNested
import HandS.ExcOwn
import KE.KDflt
import HandS.Nested
import HandS.Wide
import HandS.TupMul
import HandS.Rev
import HandS.RevRange
import HandS.Style
import HandS.MakeKw
import KE.GoesEnumKw
import HandS.Strs
import KE.KTupSum
import HandS.Conv
import HandS.Zip
import HandS.RaiseFrom
import HandS.SuiteRaise
import HandS.ExcInitHot
import KE.BitLaws
import KE.IntBitsLaws
set_option Elab.async false
set_option linter.all false
set_option maxRecDepth 100000
set_option maxHeartbeats 4000000
namespace Bm
open PySem PySem.Spec PyProof.Rows L2
structure Fn (P : Program) (w : World) (K : PySem.W.Frag) (mg : Str → Option Value) (base : Heap) (CX : CXT) (k : Nat) (x : Str) (sp : Sp) (dvs : List V) : Prop where
  ex : ∃ (f : Addr) (fd : FuncData) (ps : List Str) (ds : List Value), mg x = some (.ref f) ∧ PySem.W.keepIn K (.ref f) = true ∧ L2.Binds K fd ps ds ∧ Vals dvs ds ∧ FnOk P w K mg base CX k f fd ps sp
theorem pe_f {X : Cx} {CX : CXT} {k j : Nat} {x : Str} {sp : Sp} {dvs : List V} {E : XK} {e : Expr} {es : List Expr} {t : TA} {p pos : Pos} (c : Fn X.prog X.w X.K X.mg X.base CX k x sp dvs) (hr : Room j X.A) (hk : k ≤ j) (hx : Passes CX X E) (ha : PA X (e :: es) t) (hg : Gl X x := by rfl)
    (hdb : (x == ("__debug__" : Str)) = false := by decide) (he : starEach (e :: es) X.env = (false, eval e X.env) :: starEach es X.env := by rfl) (hpl : (backTo pos (starEach es X.env)).any (·.1) = false := by rfl) :
    PE X (.Call (.Name x p) (e :: es) [] pos) (tCall sp dvs E t) := by
  obtain ⟨f, fd, ps, ds, hm, hkp, hb, hd, F⟩ := c.ex
  exact pe_call F (hr.mono hk) hg hm hkp hb hd hx ha hdb he hpl
section
variable {X : Cx}
def rCntF (K : PySem.W.Frag) : V → List V → Hp → VK → Prop := fun x xs H Q => ∃ (p : Addr) (ys : List V) (y : V), x = .ref p ∧ xs = [y] ∧ SqL K H p ys ∧ flatV y = true ∧ ys.all flatV = true ∧ Q (.int (ys.countP (fun z => eqV z y) : Nat)) H
theorem cnt_eq {y : V} : ∀ {ys : List V} {us : List Value}, Vals ys us → ys.all flatV = true → us.countP (eqU y) = ys.countP (fun z => eqV z y)
  | _, _, .nil, _ => rfl
  | z :: ys, u :: us, .cons r t, f => by
    rw [List.all_cons, Bool.and_eq_true] at f
    rw [List.countP_cons, List.countP_cons, cnt_eq t f.2, eqU_of r f.1]
theorem mt_lcountF : MtR X "list.count" (rCntF X.K) := by
  intro pins s σ H x xs v us Q I rx rxs h
  obtain ⟨p, ys, y, rfl, rfl, hs, fy, fys, q⟩ := h
  cases rx
  cases rxs with
  | cons ry rt =>
    rename_i uy ut
    cases rt
    obtain ⟨its, rv, ⟨⟨cls, dd, data, sl⟩, n, ho, hc, hdn, hd⟩, hlen⟩ := I.list hs
    simp only at hc hd
    subst hc hd
    refine call_meets PySem.F.slot_list_count ⟨_, ho, rfl⟩ PySem.F.entry_list_count (PySem.F.args_list_count_2 _ _)
      (SeqAt.list_countAt p its.toArray n dd sl uy (eqU y)) ⟨ho, fun u hu => mem_eqAt ry fy rv fys u (by simpa using hu), ?_⟩
    have ec : its.toArray.toList.countP (eqU y) = ys.countP (fun z => eqV z y) := cnt_eq rv fys
    refine ⟨.int (ys.countP (fun z => eqV z y) : Nat), H, I.tok _, ⟨s.toks, ?_⟩, q⟩
    show Value.int ((its.toArray.toList.countP (eqU y) : Nat) : Int) s.toks = Value.int ((ys.countP (fun z => eqV z y) : Nat) : Int) s.toks
    rw [ec]
end
def rIsX (K : PySem.W.Frag) (a : Addr) (cls : Value) (d : Option Addr) : List V → Hp → VK → Prop := fun xs H Q => ∃ (D : Addr) (c : V) (cv : Value) (b : Bool), cls = .ref D ∧ ExcC K D ∧ (d = none ∨ ∃ dd fs, d = some dd ∧ H dd = some (.xd fs)) ∧
  xs = [.ref a, c] ∧ (∀ u, RelV c u → u = cv) ∧ PySem.W.kitOne K (.ref D) cv = some b ∧ Q (.bl b) H
theorem call_isX {X : Cx} {a : Addr} {cls : Value} {d : Option Addr} {oe : Obj} {pn : List (Addr × Obj)} (hz : Zc cls d oe) (hf : ∃ vs, oe.data = .fields vs) : CallR (X.suite a ((a, oe) :: pn)) (.builtin "isinstance") (rIsX X.K a cls d) := by
  intro pins s σ H xs us Q I r h
  obtain ⟨D, c, cv, b, rfl, C, hd, rfl, hcv, e, q⟩ := h
  cases r with
  | cons rx rr =>
    cases rr with
    | cons rt rr =>
      cases rr
      cases rx
      have ec := hcv _ rt
      subst ec
      obtain ⟨hget, _⟩ := I.pin (a, oe) (List.mem_append.mpr (.inl List.mem_cons_self))
      obtain ⟨vs, hv⟩ := hf
      have J : ∃ od, PySem.W.InstAt s.heap a oe D od := by
        obtain ⟨oc, odi, oda, osl⟩ := oe
        obtain ⟨h1, h2⟩ := hz
        dsimp only at h1 h2 hv
        subst h1 h2 hv
        rcases hd with hd | ⟨dd, fs, hd, hH⟩
        · subst hd
          exact ⟨none, hget, rfl, rfl, trivial⟩
        · subst hd
          have hx : ObjOk X.prog X.w H s.heap dd (.xd fs) := I.hok dd _ hH
          obtain ⟨mA, ⟨od, es, ep, ho, hr⟩, _⟩ := hx
          exact ⟨some od, hget, rfl, rfl, ho⟩
      obtain ⟨od, J⟩ := J
      have hcl : (PySem.W.clsIn X.K D).isSome = true := by
        obtain ⟨cd, hc, _⟩ := PySem.W.any_some C.hd
        rw [hc] <;> rfl
      exact PySem.W.kia_one (PySem.W.kitx_exc (ox := oe) (od := od) hcl C.hg C.hk C.hs C.ha C.hn C.ht C.hm) I.kIn J e (fun z => nomatch z) fun tk => ⟨.bl b, H, I.kept (t' := tk) fun _ _ z => z, rfl, q⟩
theorem pe_minit {X : Cx} {x : Str} {CM : Addr} {e : Expr} {es : List Expr} {ta : TA} {p1 p2 pos : Pos} {pl : Sem Bool} (hg : Gl X x) (hm : X.mg x = some (.ref CM)) (hs : PySem.W.specialIn X.K (.ref CM) "__getattribute__" = some (some (.builtin "type.__getattribute__"))) (hrd : PySem.W.readsIn X.K CM (.type "type") = true)
    (vV : PySem.W.findCls X.K (.ref CM) (.type "type") "__init__" = some (.val (.builtin "ValueError.__init__"))) (ha : PA X (e :: es) ta) (hdb : (x == ("__debug__" : Str)) = false := by decide)
    (hc : eval (.Call (.Attribute (.Name x p1) "__init__" p2) (e :: es) [] pos) X.env = (do
      let ov ← eval (.Name x p1) X.env
      standAt p2.atName
      let (f, first) ← holding [ov] (getMethod ov "__init__" pl)
      callWith pos f first (backTo pos (starEach (e :: es) X.env)) (backToKw pos (keywordEach [] X.env))) := by rfl)
    (he : starEach (e :: es) X.env = (false, eval e X.env) :: starEach es X.env := by rfl) (hpl : (backTo pos (starEach es X.env)).any (·.1) = false := by rfl) :
    PE X (.Call (.Attribute (.Name x p1) "__init__" p2) (e :: es) [] pos) (tVeI X.K ta) := by
  refine ⟨fun pins s σ H Q I h => ?_⟩
  refine PySem.W.methodCall_KW (ld_glob I hg hm ?_ hdb) hc
  refine PySem.W.method_cls I.kIn hs (PySem.W.cls_value I.kIn hrd vV (by decide +kernel) ?_)
  show wpAny _ _ (callWith pos (Value.builtin "ValueError.__init__") [] (backTo pos (starEach (e :: es) X.env)) []) _ _ _
  refine PyProof.Rows.callWith_method1 (thn (ha.run pos pins _ σ H _ (I.tok _) h) fun us s1 ⟨vs, H1, I1, r1, a, C, ws, ev, hl, T, ea, q⟩ => ?_) he hpl
  subst ev
  cases r1 with
  | @cons _ u0 _ ur ra rw' =>
    obtain rfl : u0 = Value.ref a := ra
    have hlen : ur.length ≤ sizeLine := by
      rw [← Paired.length rw', sizeLine_eq]
      omega
    exact oinit_ok T I1 ea hlen fun s' J => ⟨.non, H1, J, rfl, q⟩
end Bm
set_option Elab.async false
set_option linter.all false
set_option maxRecDepth 100000
set_option maxHeartbeats 4000000
namespace Bm
open PySem PySem.Spec PyProof.Rows L2 He
def asB (g : Addr → Option Obj) (n : Nat) : List Addr := He.asD g n ++ [cStatics]
def obsB (n : Nat) (fa : List Fa) (fn : List DefD) (ts : List Tab) (tf : List Defn) (ex : PySem.W.Frag → Bool) (g : Addr → Option Obj) : AlX := (obsT fa fn ts (frT g (asB g n)), ex (frT g (asB g n)) && tabsB g tf (frT g (asB g n)))
theorem saysB_of {n : Nat} {fa : List Fa} {fn : List DefD} {ts : List Tab} {tf : List Defn} {ex : PySem.W.Frag → Bool} {w : World} {h : Heap} (e : obsB n fa fn ts tf ex h.get? = valX fn ts w) : SaysX fa fn ts tf ex w h (frT h.get? (asB h.get? n)) := by
  have e1 : obsT fa fn ts (frT h.get? (asB h.get? n)) = valT fn ts w := congrArg (fun z : AlX => z.1) e
  have e2 : (ex (frT h.get? (asB h.get? n)) && tabsB h.get? tf (frT h.get? (asB h.get? n))) = true := congrArg (fun z : AlX => z.2) e
  obtain ⟨h1, h2⟩ := ba e2
  have key : ∀ p ∈ tf, PySem.W.codeHdIn (frT h.get? (asB h.get? n)) (cT (frT h.get? (asB h.get? n)) p).1 (cT (frT h.get? (asB h.get? n)) p).2 = true ∧ ∃ o, h.get? (cT (frT h.get? (asB h.get? n)) p).2 = some o ∧ emptyTab o = true := fun p hp => by
    obtain ⟨h3, h4⟩ := ba (List.all_eq_true.mp h2 p hp)
    refine ⟨h3, ?_⟩
    cases q : h.get? (cT (frT h.get? (asB h.get? n)) p).2 with
    | none =>
      rw [q] at h4
      cases h4
    | some o =>
      rw [q] at h4
      exact ⟨o, rfl, h4⟩
  exact ⟨e1, h1, fun p hp => (key p hp).1, fun p hp => by
    obtain ⟨_, o, q, z⟩ := key p hp
    exact frT_none q z, fun p hp => by
    obtain ⟨_, o, q, z⟩ := key p hp
    rw [q, emptyTab_eq z]⟩
def hookB (n : Nat) (fa : List Fa) (fn : List DefD) (ts : List Tab) (tf : List Defn) (ex : PySem.W.Frag → Bool) : PySem.W.Hook where
  α := AlX
  obs := fun s => obsB n fa fn ts tf ex s.heap.get?
  val := fun w => valX fn ts w
  says := fun w h => ∃ K : PySem.W.Frag, K.In h ∧ SaysX fa fn ts tf ex w h K
  of := fun _ _ e => ⟨_, frT_in, saysB_of e⟩
  keeps := fun _ _ _ ⟨K, hK, c⟩ k => ⟨K, PySem.W.Frag.In.keeps hK k, ⟨c.t, c.more, c.hd, c.out, fun p hp => k _ _ (c.empty p hp)⟩⟩
def oexB (K : PySem.W.Frag) (C : Addr) : Bool := (match K.lookup C with
  | some ⟨.type t, dd, .cls cd, sl⟩ => (match cd.mro, sl.toList with
    | .ref C' :: bm, [_, _, _, _, some (.builtin n), _] => decide (t = "type") && (decide (C' = C) && (decide (n = "ValueError.__new__") && (!cd.hasDel && (cd.hasDict && PySem.HandSPX.refsVE bm))))
    | _, _ => false)
  | _ => false) && (eqO (PySem.W.findIn K (.ref C) "__setattr__") (some (some (.builtin "object.__setattr__"))) && (decide (PySem.W.subIn K (.ref C) (.type "BaseException") = some true) && (decide (PySem.W.typeIn K (.ref C) = some (.type "type")) && PySem.W.keepIn K (.ref C))))
theorem oexB_ok {K : PySem.W.Frag} {C : Addr} (h : oexB K C = true) : OexC K C := by
  obtain ⟨h1, h⟩ := ba h
  obtain ⟨h2, h⟩ := ba h
  obtain ⟨h3, h⟩ := ba h
  obtain ⟨h4, h5⟩ := ba h
  refine ⟨?_, eqO_ok h2, of_decide_eq_true h3, of_decide_eq_true h4, h5⟩
  cases q : K.lookup C with
  | none =>
    rw [q] at h1
    cases h1
  | some o =>
    obtain ⟨oc, od, dt, sl⟩ := o
    rw [q] at h1
    cases oc with
    | type t =>
      cases dt with
      | cls cd =>
        obtain ⟨nm, bs, mro, ns, qn, hd, sn, sub, ab, col, del⟩ := cd
        obtain ⟨l⟩ := sl
        dsimp only at h1
        split at h1
        · rename_i C' bm k0 k1 k2 k3 n k5
          obtain ⟨e1, h1⟩ := ba h1
          obtain ⟨e2, h1⟩ := ba h1
          obtain ⟨e3, h1⟩ := ba h1
          obtain ⟨e4, h1⟩ := ba h1
          obtain ⟨e5, e6⟩ := ba h1
          have e1 := of_decide_eq_true e1
          have e2 := of_decide_eq_true e2
          have e3 := of_decide_eq_true e3
          subst e1 e2 e3
          have e4 : del = false := by
            cases del with
            | false => rfl
            | true => cases e4
          subst e4
          have e5 : hd = true := e5
          subst e5
          exact ⟨nm, qn, ns, bs, bm, sn, sub, ab, col, od, k0, k1, k2, k3, k5, rfl, e6⟩
        · cases h1
      | _ => cases h1
    | _ => cases dt <;> cases h1
def excCB (K : PySem.W.Frag) (D : Addr) : Bool := eqO (PySem.W.findIn K (.ref D) "__getattribute__") (some (some (.builtin "BaseException.__getattribute__"))) && (eqO (PySem.W.findIn K (.ref D) "__getattr__") (some none) && (decide (PySem.W.subIn K (.ref D) (.type "BaseException") = some true) &&
  (PySem.W.hasDictIn K D && (eqO (PySem.W.findIn K (.ref D) "__class__") (some (some (.builtin "object.__class__"))) && (eqO (PySem.W.specialIn K (.builtin "object.__class__") "__get__") (some (some (.builtin "getset_descriptor.__get__"))) &&
  (decide (PySem.W.takesIn K (.builtin "object.__class__") = some true) && decide (PySem.W.mroIn K D (.type "object") = some true)))))))
theorem excCB_ok {K : PySem.W.Frag} {D : Addr} (h : excCB K D = true) : ExcC K D := by
  obtain ⟨h1, h⟩ := ba h
  obtain ⟨h2, h⟩ := ba h
  obtain ⟨h3, h⟩ := ba h
  obtain ⟨h4, h⟩ := ba h
  obtain ⟨h5, h⟩ := ba h
  obtain ⟨h6, h⟩ := ba h
  obtain ⟨h7, h8⟩ := ba h
  exact ⟨eqO_ok h1, eqO_ok h2, of_decide_eq_true h3, h4, eqO_ok h5, eqO_ok h6, of_decide_eq_true h7, of_decide_eq_true h8⟩
end Bm
set_option Elab.async false
set_option linter.all false
set_option maxRecDepth 100000
set_option maxHeartbeats 4000000
namespace Bm
open PySem PySem.Spec PyProof.Rows L2 He
def plainX : List Str := ["BadDeed", "BadReach", "NoDeed", "BadCount", "NoMend"]
def numX : List Str := ["BadImage", "BadGiven", "BadList"]
def allX : List Str := ["BadDeed", "BadReach", "NoDeed", "BadCount", "NoMend", "BadImage", "BadGiven", "BadList", "BadRow"]
def xB (K : PySem.W.Frag) : Bool :=
  (allX.all fun x => decide (PySem.W.exmOne K (.ref (ga K x)) (.ref (ga K "MillError")) = some true) && (excCB K (ga K x) && (decide (PySem.W.kitOne K (.ref (ga K x)) (.type "ValueError") = some true) && allX.all fun y => decide (PySem.W.kitOne K (.ref (ga K x)) (.ref (ga K y)) = some (decide (x = y)))))) &&
  ((plainX.all fun x => (Fa.exc x).ok K) &&
  ((numX.all fun x => oexB K (ga K x) && (eqO (PySem.W.findIn K (.ref (ga K x)) "__init__") (some (some (.ref (ma K (ga K "Numbered") "__init__")))) && (eqO (PySem.W.findIn K (.ref (ga K x)) "number") (some none) && xfB K (ga K x)))) &&
  (oexB K (ga K "BadRow") && (eqO (PySem.W.findIn K (.ref (ga K "BadRow")) "__init__") (some (some (.ref (ma K (ga K "BadRow") "__init__")))) && (eqO (PySem.W.findIn K (.ref (ga K "BadRow")) "row") (some none) && (eqO (PySem.W.findIn K (.ref (ga K "BadRow")) "why") (some none) && (xfB K (ga K "BadRow") &&
  (decide (PySem.W.typeIn K (.ref (ma K (ga K "Numbered") "__init__")) = some (.type "function")) && (decide (PySem.W.typeIn K (.ref (ma K (ga K "BadRow") "__init__")) = some (.type "function")) &&
  (eqO (PySem.W.specialIn K (.ref (ga K "MillError")) "__getattribute__") (some (some (.builtin "type.__getattribute__"))) && (PySem.W.readsIn K (ga K "MillError") (.type "type") &&
  (match PySem.W.findCls K (.ref (ga K "MillError")) (.type "type") "__init__" with
    | some (.val (.builtin n)) => decide (n = "ValueError.__init__")
    | _ => false))))))))))))
structure XF (K : PySem.W.Frag) : Prop where
  exm : ∀ x ∈ allX, PySem.W.exmOne K (.ref (ga K x)) (.ref (ga K "MillError")) = some true
  exc : ∀ x ∈ allX, ExcC K (ga K x)
  kitV : ∀ x ∈ allX, PySem.W.kitOne K (.ref (ga K x)) (.type "ValueError") = some true
  kit : ∀ x ∈ allX, ∀ y ∈ allX, PySem.W.kitOne K (.ref (ga K x)) (.ref (ga K y)) = some (decide (x = y))
  plain : ∀ x ∈ plainX, PySem.W.excIn K (ga K x) veBase "ValueError.__new__" = true ∧ PySem.W.keepIn K (.ref (ga K x)) = true ∧ PySem.W.subIn K (.ref (ga K x)) (.type "BaseException") = some true ∧ PySem.W.typeIn K (.ref (ga K x)) = some (.type "type")
  num : ∀ x ∈ numX, OexC K (ga K x) ∧ PySem.W.findIn K (.ref (ga K x)) "__init__" = some (some (.ref (ma K (ga K "Numbered") "__init__"))) ∧ PySem.W.findIn K (.ref (ga K x)) "number" = some none ∧ XfC K (ga K x)
  rowO : OexC K (ga K "BadRow")
  rowI : PySem.W.findIn K (.ref (ga K "BadRow")) "__init__" = some (some (.ref (ma K (ga K "BadRow") "__init__")))
  rowR : PySem.W.findIn K (.ref (ga K "BadRow")) "row" = some none
  rowW : PySem.W.findIn K (.ref (ga K "BadRow")) "why" = some none
  rowX : XfC K (ga K "BadRow")
  tyN : PySem.W.typeIn K (.ref (ma K (ga K "Numbered") "__init__")) = some (.type "function")
  tyR : PySem.W.typeIn K (.ref (ma K (ga K "BadRow") "__init__")) = some (.type "function")
  mS : PySem.W.specialIn K (.ref (ga K "MillError")) "__getattribute__" = some (some (.builtin "type.__getattribute__"))
  mR : PySem.W.readsIn K (ga K "MillError") (.type "type") = true
  mV : PySem.W.findCls K (.ref (ga K "MillError")) (.type "type") "__init__" = some (.val (.builtin "ValueError.__init__"))
theorem xB_ok {K : PySem.W.Frag} (h : xB K = true) : XF K := by
  obtain ⟨h1, h⟩ := ba h
  obtain ⟨h2, h⟩ := ba h
  obtain ⟨h3, h⟩ := ba h
  obtain ⟨h4, h⟩ := ba h
  obtain ⟨h5, h⟩ := ba h
  obtain ⟨h6, h⟩ := ba h
  obtain ⟨h7, h⟩ := ba h
  obtain ⟨h8, h⟩ := ba h
  obtain ⟨h9, h⟩ := ba h
  obtain ⟨h10, h⟩ := ba h
  obtain ⟨h11, h⟩ := ba h
  obtain ⟨h12, h13⟩ := ba h
  have a1 := fun x hx => ba (List.all_eq_true.mp h1 x hx)
  refine ⟨fun x hx => of_decide_eq_true (a1 x hx).1, fun x hx => excCB_ok (ba (a1 x hx).2).1, fun x hx => of_decide_eq_true (ba (ba (a1 x hx).2).2).1, fun x hx y hy => of_decide_eq_true (List.all_eq_true.mp (ba (ba (a1 x hx).2).2).2 y hy),
    fun x hx => exc_ok (List.all_eq_true.mp h2 x hx), fun x hx => ?_, oexB_ok h4, eqO_ok h5, eqO_ok h6, eqO_ok h7, xfB_ok h8, of_decide_eq_true h9, of_decide_eq_true h10, eqO_ok h11, h12, ?_⟩
  · obtain ⟨b1, b⟩ := ba (List.all_eq_true.mp h3 x hx)
    obtain ⟨b2, b⟩ := ba b
    obtain ⟨b3, b4⟩ := ba b
    exact ⟨oexB_ok b1, eqO_ok b2, eqO_ok b3, xfB_ok b4⟩
  · generalize PySem.W.findCls K (.ref (ga K "MillError")) (.type "type") "__init__" = r at h13
    split at h13
    · rw [of_decide_eq_true h13]
    · cases h13
end Bm
set_option Elab.async false
set_option linter.all false
set_option maxRecDepth 100000
set_option maxHeartbeats 4000000
namespace Bm
open PySem PySem.Spec PyProof.Rows L2 He
def xmB (K : PySem.W.Frag) (x : Str) : Bool := decide (PySem.W.exmOne K (.ref (ga K x)) (.ref (ga K x)) = some true)
def xnB (K : PySem.W.Frag) : Bool := decide (PySem.W.typeIn K (.ref (ma K (ga K "Numbered") "__init__")) = some (.type "function")) && (eqO (PySem.W.specialIn K (.ref (ga K "MillError")) "__getattribute__") (some (some (.builtin "type.__getattribute__"))) && (PySem.W.readsIn K (ga K "MillError") (.type "type") &&
  (match PySem.W.findCls K (.ref (ga K "MillError")) (.type "type") "__init__" with
    | some (.val (.builtin n)) => decide (n = "ValueError.__init__")
    | _ => false)))
def xB2 (ps ns : List Str) (K : PySem.W.Frag) : Bool := (ps.all fun x => (Fa.exc x).ok K && xmB K x) &&
  ((ns.all fun x => oexB K (ga K x) && (eqO (PySem.W.findIn K (.ref (ga K x)) "__init__") (some (some (.ref (ma K (ga K "Numbered") "__init__")))) && (eqO (PySem.W.findIn K (.ref (ga K x)) "number") (some none) && xfB K (ga K x)))) && (ns.isEmpty || xnB K))
structure XF2 (ps ns : List Str) (K : PySem.W.Frag) : Prop where
  plain : ∀ x ∈ ps, PySem.W.excIn K (ga K x) veBase "ValueError.__new__" = true ∧ PySem.W.keepIn K (.ref (ga K x)) = true ∧ PySem.W.subIn K (.ref (ga K x)) (.type "BaseException") = some true ∧ PySem.W.typeIn K (.ref (ga K x)) = some (.type "type")
  self : ∀ x ∈ ps, PySem.W.exmOne K (.ref (ga K x)) (.ref (ga K x)) = some true
  num : ∀ x ∈ ns, OexC K (ga K x) ∧ PySem.W.findIn K (.ref (ga K x)) "__init__" = some (some (.ref (ma K (ga K "Numbered") "__init__"))) ∧ PySem.W.findIn K (.ref (ga K x)) "number" = some none ∧ XfC K (ga K x)
  more : ns ≠ [] → PySem.W.typeIn K (.ref (ma K (ga K "Numbered") "__init__")) = some (.type "function") ∧ PySem.W.specialIn K (.ref (ga K "MillError")) "__getattribute__" = some (some (.builtin "type.__getattribute__")) ∧ PySem.W.readsIn K (ga K "MillError") (.type "type") = true ∧
    PySem.W.findCls K (.ref (ga K "MillError")) (.type "type") "__init__" = some (.val (.builtin "ValueError.__init__"))
theorem xB2_ok {ps ns : List Str} {K : PySem.W.Frag} (h : xB2 ps ns K = true) : XF2 ps ns K := by
  obtain ⟨h1, h⟩ := ba h
  obtain ⟨h2, h3⟩ := ba h
  refine ⟨fun x hx => exc_ok (ba (List.all_eq_true.mp h1 x hx)).1, fun x hx => of_decide_eq_true (ba (List.all_eq_true.mp h1 x hx)).2, fun x hx => ?_, fun hn => ?_⟩
  · obtain ⟨b1, b⟩ := ba (List.all_eq_true.mp h2 x hx)
    obtain ⟨b2, b⟩ := ba b
    obtain ⟨b3, b4⟩ := ba b
    exact ⟨oexB_ok b1, eqO_ok b2, eqO_ok b3, xfB_ok b4⟩
  · rcases Bool.or_eq_true_iff.mp h3 with z | z
    · exact absurd (List.isEmpty_iff.mp z) hn
    · obtain ⟨c1, z⟩ := ba z
      obtain ⟨c2, z⟩ := ba z
      obtain ⟨c3, c4⟩ := ba z
      refine ⟨of_decide_eq_true c1, eqO_ok c2, c3, ?_⟩
      generalize PySem.W.findCls K (.ref (ga K "MillError")) (.type "type") "__init__" = r at c4
      split at c4
      · rw [of_decide_eq_true c4]
      · cases c4
/-- a tuple of the module, without a dict of its own -/
def tdB (K : PySem.W.Frag) (x : Str) : Bool := match K.lookup (ga K x) with
  | some o => decide (o.cls = .type "tuple") && decide (o.dict = none)
  | none => false
end Bm
set_option Elab.async false
set_option linter.all false
set_option maxRecDepth 100000
set_option maxHeartbeats 4000000
namespace Bm
open PySem PySem.Spec PyProof.Rows L2 He
def obsL (as : List Addr) (fa : List Fa) (fn : List DefD) (ts : List Tab) (tf : List Defn) (ex : PySem.W.Frag → Bool) (g : Addr → Option Obj) : AlX := (obsT fa fn ts (frT g as), ex (frT g as) && tabsB g tf (frT g as))
theorem saysL_of {as : List Addr} {fa : List Fa} {fn : List DefD} {ts : List Tab} {tf : List Defn} {ex : PySem.W.Frag → Bool} {w : World} {h : Heap} (e : obsL as fa fn ts tf ex h.get? = valX fn ts w) : SaysX fa fn ts tf ex w h (frT h.get? as) := by
  have e1 : obsT fa fn ts (frT h.get? as) = valT fn ts w := congrArg (fun z : AlX => z.1) e
  have e2 : (ex (frT h.get? as) && tabsB h.get? tf (frT h.get? as)) = true := congrArg (fun z : AlX => z.2) e
  obtain ⟨h1, h2⟩ := ba e2
  have key : ∀ p ∈ tf, PySem.W.codeHdIn (frT h.get? as) (cT (frT h.get? as) p).1 (cT (frT h.get? as) p).2 = true ∧ ∃ o, h.get? (cT (frT h.get? as) p).2 = some o ∧ emptyTab o = true := fun p hp => by
    obtain ⟨h3, h4⟩ := ba (List.all_eq_true.mp h2 p hp)
    refine ⟨h3, ?_⟩
    cases q : h.get? (cT (frT h.get? as) p).2 with
    | none =>
      rw [q] at h4
      cases h4
    | some o =>
      rw [q] at h4
      exact ⟨o, rfl, h4⟩
  exact ⟨e1, h1, fun p hp => (key p hp).1, fun p hp => by
    obtain ⟨_, o, q, z⟩ := key p hp
    exact frT_none q z, fun p hp => by
    obtain ⟨_, o, q, z⟩ := key p hp
    rw [q, emptyTab_eq z]⟩
def hookL (as : List Addr) (fa : List Fa) (fn : List DefD) (ts : List Tab) (tf : List Defn) (ex : PySem.W.Frag → Bool) : PySem.W.Hook where
  α := AlX
  obs := fun s => obsL as fa fn ts tf ex s.heap.get?
  val := fun w => valX fn ts w
  says := fun w h => ∃ K : PySem.W.Frag, K.In h ∧ SaysX fa fn ts tf ex w h K
  of := fun _ _ e => ⟨_, frT_in, saysL_of e⟩
  keeps := fun _ _ _ ⟨K, hK, c⟩ k => ⟨K, PySem.W.Frag.In.keeps hK k, ⟨c.t, c.more, c.hd, c.out, fun p hp => k _ _ (c.empty p hp)⟩⟩
theorem obsL_eq {as : List Addr} {fa : List Fa} {fn : List DefD} {ts : List Tab} {tf : List Defn} {ex : PySem.W.Frag → Bool} {g : Addr → Option Obj} {s : Shared} (h : ∀ a, g a = s.heap.get? a) : obsL as fa fn ts tf ex g = (hookL as fa fn ts tf ex).obs s := by
  have e : g = s.heap.get? := funext h
  rw [e] <;> rfl
end Bm
set_option Elab.async false
set_option linter.all false
set_option maxRecDepth 100000
set_option maxHeartbeats 0
namespace Lk26
open PySem PySem.Spec PyProof.Rows L2
def top (i : Nat) : Stmt := PySem.Challenge.pw_bitmill_k26_any_blocks_mended.main.body.getD i (.Pass ⟨0, 0, 0, 0⟩)
abbrev s_is_whole : Stmt := top 2
abbrev s_is_odd : Stmt := top 3
abbrev s_Numbered_init : Stmt := inClass (top 11) 0
abbrev s_BadRow_init : Stmt := inClass (top 15) 0
abbrev s_columns_of : Stmt := top 18
abbrev s_need_block : Stmt := top 19
abbrev s_bits_in : Stmt := top 20
abbrev s_mended : Stmt := top 21
abbrev s_law_start : Stmt := top 23
abbrev s_law_drawn : Stmt := top 24
abbrev s_law_same : Stmt := top 25
abbrev s_law_kind : Stmt := top 26
abbrev s_law_is_odd : Stmt := top 27
abbrev s_law_block : Stmt := top 28
abbrev s_law_flipped : Stmt := top 29
abbrev s_law_due : Stmt := top 30
abbrev s_law : Stmt := top 31
def d_is_whole : He.DefD := ⟨("is_whole", none), "is_whole", "is_whole", defArgs s_is_whole, defBody s_is_whole, defScope s_is_whole, [.int (0), .int (65535)], []⟩
def d_is_odd : He.DefD := ⟨("is_odd", none), "is_odd", "is_odd", defArgs s_is_odd, defBody s_is_odd, defScope s_is_odd, [], []⟩
def d_Numbered_init : He.DefD := ⟨("Numbered", some "__init__"), "__init__", "Numbered.__init__", defArgs s_Numbered_init, defBody s_Numbered_init, defScope s_Numbered_init, [], []⟩
def d_BadRow_init : He.DefD := ⟨("BadRow", some "__init__"), "__init__", "BadRow.__init__", defArgs s_BadRow_init, defBody s_BadRow_init, defScope s_BadRow_init, [], []⟩
def d_columns_of : He.DefD := ⟨("columns_of", none), "columns_of", "columns_of", defArgs s_columns_of, defBody s_columns_of, defScope s_columns_of, [], []⟩
def d_need_block : He.DefD := ⟨("need_block", none), "need_block", "need_block", defArgs s_need_block, defBody s_need_block, defScope s_need_block, [], []⟩
def d_bits_in : He.DefD := ⟨("bits_in", none), "bits_in", "bits_in", defArgs s_bits_in, defBody s_bits_in, defScope s_bits_in, [], []⟩
def d_mended : He.DefD := ⟨("mended", none), "mended", "mended", defArgs s_mended, defBody s_mended, defScope s_mended, [], []⟩
def d_law_start : He.DefD := ⟨("_law_start", none), "_law_start", "_law_start", defArgs s_law_start, defBody s_law_start, defScope s_law_start, [], []⟩
def d_law_drawn : He.DefD := ⟨("_law_drawn", none), "_law_drawn", "_law_drawn", defArgs s_law_drawn, defBody s_law_drawn, defScope s_law_drawn, [], []⟩
def d_law_same : He.DefD := ⟨("_law_same", none), "_law_same", "_law_same", defArgs s_law_same, defBody s_law_same, defScope s_law_same, [], []⟩
def d_law_kind : He.DefD := ⟨("_law_kind", none), "_law_kind", "_law_kind", defArgs s_law_kind, defBody s_law_kind, defScope s_law_kind, [], []⟩
def d_law_is_odd : He.DefD := ⟨("_law_is_odd", none), "_law_is_odd", "_law_is_odd", defArgs s_law_is_odd, defBody s_law_is_odd, defScope s_law_is_odd, [], []⟩
def d_law_block : He.DefD := ⟨("_law_block", none), "_law_block", "_law_block", defArgs s_law_block, defBody s_law_block, defScope s_law_block, [], []⟩
def d_law_flipped : He.DefD := ⟨("_law_flipped", none), "_law_flipped", "_law_flipped", defArgs s_law_flipped, defBody s_law_flipped, defScope s_law_flipped, [], []⟩
def d_law_due : He.DefD := ⟨("_law_due", none), "_law_due", "_law_due", defArgs s_law_due, defBody s_law_due, defScope s_law_due, [], []⟩
def d_law : He.DefD := ⟨("law", none), "law", "law", defArgs s_law, defBody s_law, defScope s_law, [], []⟩
def fn : List He.DefD := [d_is_whole, d_is_odd, d_Numbered_init, d_BadRow_init, d_columns_of, d_need_block, d_bits_in, d_mended, d_law_start, d_law_drawn, d_law_same, d_law_kind, d_law_is_odd, d_law_block, d_law_flipped, d_law_due, d_law]
def ts : List He.Tab := []
def fa : List He.Fa := [.glo "is_whole", .glo "is_odd", .glo "columns_of", .glo "need_block", .glo "bits_in", .glo "mended", .glo "_law_start", .glo "_law_drawn", .glo "_law_same", .glo "_law_kind", .glo "_law_is_odd", .glo "_law_block", .glo "_law_flipped", .glo "_law_due", .glo "law", .glo "MillError", .glo "BadDeed", .glo "BadReach", .glo "NoDeed", .glo "BadCount", .glo "NoMend", .glo "Numbered", .glo "BadImage", .glo "BadGiven", .glo "BadList", .glo "BadRow", .free "ValueError", .free "bool", .free "enumerate", .free "int", .free "isinstance", .free "len", .free "list", .free "range", .free "sum", .free "tuple", .int "LAST" 65535, .int "MOST_BLOCK" 14]
def xAll (K : PySem.W.Frag) : Bool := (Bm.xB2 ["BadDeed", "BadReach", "NoDeed", "BadCount", "NoMend"] ["BadImage", "BadGiven", "BadList"] K && Bm.xB K)
abbrev R : PySem.W.OpenRow := PySem.W.OpenLaw.row PySem.Challenge.rw_bitmill_k26_any_blocks_mended
def tf : List He.Defn := [("law", none)]
def as0 : List Addr := ([3, 6, 4, 22, 29, 39, 52, 64, 76, 88, 100, 119, 131, 143, 155, 174, 183, 190, 195, 200, 207, 214, 219, 226, 233, 238, 245, 252, 257, 0] : List Addr) ++ ([21, 15, 28, 38, 51, 63, 75, 87, 99, 118, 130, 142, 154, 173, 182, 189, 194, 199, 206, 213, 218, 225, 232, 237, 244, 251, 256, 16, 17, 18] : List Addr) ++ ([19, 20, 23, 24, 25, 26, 27, 37, 40, 50, 62, 74, 86, 98, 116, 117, 129, 141, 153, 171, 172, 177, 178, 179, 180, 181, 184, 185, 186, 187] : List Addr) ++ ([188, 191, 192, 193, 196, 197, 198, 201, 202, 203, 204, 205, 208, 209, 210, 211, 212, 215, 216, 217, 220, 221, 222, 223, 224, 227, 228, 229, 230, 231] : List Addr) ++ ([234, 235, 236, 239, 240, 241, 242, 243, 246, 247, 248, 249, 250, 253, 254, 255, 115, 170, 110, 111, 112, 113, 114, 165, 166, 167, 168, 169, 2] : List Addr)
abbrev hk : PySem.W.Hook := Bm.hookL as0 fa fn ts tf xAll
def ob (s : PySem.W.SharedT) : He.AlX := Bm.obsL as0 fa fn ts tf xAll (HandSHeadRun.getT s)
theorem ob_eq (s : PySem.W.SharedT) : ob s = hk.obs s.abs := Bm.obsL_eq (HandSHeadRun.getT_eq s)
def names : List Str := (["BadCount", "BadDeed", "BadGiven", "BadImage", "BadList", "BadReach", "BadRow", "LAST", "MOST_BLOCK", "MillError", "NoDeed", "NoMend"] : List Str) ++ (["Numbered", "_law_block", "_law_drawn", "_law_due", "_law_flipped", "_law_is_odd", "_law_kind", "_law_same", "_law_start", "bits_in", "columns_of", "is_odd"] : List Str) ++ (["is_whole", "mended", "need_block"] : List Str)
theorem runF (w : World) : HandSHeadRun.RunEq R (PySem.W.view R.prog [31]) hk ob 9000 names (w.withFollow "special-get-raises" false) := by
  intro os
  kernel_rfl
theorem runT (w : World) : HandSHeadRun.RunEq R (PySem.W.view R.prog [31]) hk ob 9000 names (w.withFollow "special-get-raises" true) := by
  intro os
  kernel_rfl
theorem run (w : World) : HandSHeadRun.RunEq R (PySem.W.view R.prog [31]) hk ob 9000 names w :=
  PySem.W.byRow2 "special-get-raises" (P := fun w => HandSHeadRun.RunEq R (PySem.W.view R.prog [31]) hk ob 9000 names w) runF runT w
end Lk26
set_option Elab.async false
set_option linter.all false
set_option maxRecDepth 100000
set_option maxHeartbeats 4000000
namespace PySem
open PyProof.Rows
section
variable {prog : Program} {w : World} {A : Around} {E : Value → Shared → Prop} {s : Shared}
set_option maxHeartbeats 1000000 in
theorem bm_enum_new1 {v : Value} {o : Obj} {H : Heap → Prop} (B : Begins v o H) :
    Meets (Builtin.«enumerate.__new__» ⟨[.type "enumerate", v], []⟩) (fun _ R s => H s.heap ∧
      R (.ok (.ret (.ref (s.heap.push o).objs.size))) { s with heap := (s.heap.push o).push { cls := .type "enumerate", data := .fields #[.none, .bool false, .ref s.heap.objs.size, rawInt 0, .none, .none] } }) :=
  .of_wp fun prog w A R s h => by
    obtain ⟨hp, g, d, tk, os⟩ := s; obtain ⟨h1, h⟩ := h
    have hsub := sub_enumerate
    have q1 : ∀ {A' : Around} {E : Value → Shared → Prop} {Q : Value → Shared → Prop}, Q (.ref hp.objs.size) ⟨hp.push o, g, d, tk, os⟩ → wpAny (model prog w) A' (pyIter v) Q E ⟨hp, g, d, tk, os⟩ :=
      fun q => B.iter prog w _ _ ⟨hp, g, d, tk, os⟩ _ h1 q
    wp_walk using q1
    refine wpAny_stack_any fun st => wpAny_pure ?_
    split
    · rename_i c _ _ _ _ _
      cases (c == Value.type "enumerate")
      · wp_walk using q1
        exact ⟨_, rfl, h⟩
      · wp_walk using q1
        exact ⟨_, rfl, h⟩
    · wp_walk using q1
      exact ⟨_, rfl, h⟩
theorem bm_enum_begins {v : Value} {o : Obj} {H : Heap → Prop} {Q : Value → Shared → Prop} (B : Begins v o H) (h1 : H s.heap)
    (h : ∀ h', IsEnum h' (s.heap.objs.size + 1) s.heap.objs.size 0 .none → h'.get? s.heap.objs.size = some o → h'.objs.size = s.heap.objs.size + 2 →
      (∀ b o, s.heap.get? b = some o → h'.get? b = some o) → Q (.ref (s.heap.objs.size + 1)) { s with heap := h' }) :
    wpAny (model prog w) A (call (.type "enumerate") [v]) Q E s := by
  refine callType_new F.called_enumerate (by decide) (F.typeCall_enumerate_1 _) (F.newCall_enumerate_1 _) (fun obj => F.args_object_init_2 obj _) F.entry_enumerate_new
    (bm_enum_new1 B) ⟨h1, ?_⟩
  have hz : (s.heap.push o).objs.size = s.heap.objs.size + 1 := Heap.size_push ..
  show _ ∧ _
  rw [hz]
  have he : IsEnum ((s.heap.push o).push { cls := .type "enumerate", data := .fields #[.none, .bool false, .ref s.heap.objs.size, rawInt 0, .none, .none] }) (s.heap.objs.size + 1) s.heap.objs.size 0 .none := by
    have := Heap.get?_push_size (s.heap.push o) (o := { cls := .type "enumerate", data := .fields #[.none, .bool false, .ref s.heap.objs.size, rawInt 0, .none, .none] }) rfl
    rw [hz] at this; exact this
  refine ⟨⟨_, he, rfl⟩, h _ he (Heap.get?_push_of_some _ (Heap.get?_push_size _ B.free)) (by rw [Heap.size_push, hz]) fun b o x => Heap.get?_push_of_some _ (Heap.get?_push_of_some _ x)⟩
theorem bm_enum_end {e it t : Addr} {n : Nat} {items : Array Value} {i : Int} {old : Value} {Q : Option Value → Shared → Prop} (hh : A.handled = none)
    (he : IsEnum s.heap e it i old) (hit : s.heap.IsTupleIter it t n) (ht : s.heap.IsTuple t items) (hx : items[n]? = none)
    (hQ : ∀ h', Heap.ExtBut it s.heap h' → Q none { s with heap := h' }) : wpAny (model prog w) A (pyNext (.ref e)) Q E s := by
  have hT : s.TypeIs (.ref e) "enumerate" := ⟨_, he, rfl⟩
  unfold pyNext
  refine wpAny_bind (wpAny_attempt (wpAny_callSpecial?_slot (name := Str.ofString "__next__") hT F.slot_enumerate_next
    (wpAny_call_entry F.slot_enumerate_next hT F.entry_enumerate_next ?_ (F.args_enumerate_next_1 _))))
  show wpAny _ _ (field (.ref e) 2 >>= _) _ _ _
  refine wpAny_bind (wpAny_field he rfl (x := .ref it) rfl ?_)
  refine wpAny_bind (wpAny_nextOf_tuple_end (show A.in1.handled = none from hh) hit ht hx fun h' x he' hx' => ?_)
  obtain ⟨o, ho, hc⟩ := hx'
  refine wpAny_bind (wpAny_isInstance (T := "StopIteration") (b := true) ⟨o, ho, hc⟩ isSubtype_stop ?_)
  exact wpAny_pure (hQ _ he')
end
end PySem
namespace Bm
open PySem PySem.Spec PyProof.Rows L2
theorem pip_of {X : Cx} {op : Operator} {r : R2} (h : OpR X (inplaceOp op) r) : PIp X op r := fun pins s σ H x y v u Q I r1 r2 q => h pins s σ H x y v u Q I r1 r2 q
def SqA (K : PySem.W.Frag) (H : Hp) (a : Addr) (xs : List V) : Prop := SqL K H a xs ∨ SqT K H a xs
/-- enumerate of a tuple -/
def IteT (K : PySem.W.Frag) (a : Addr) : It :=
  ⟨fun i H => ∃ (xs : List V) (x : V), SqT K H a xs ∧ xs[i]? = some x, fun i H v H' => ∃ T x, v = .ref T ∧ H T = none ∧ H' = upd H T (.tup [.int (i : Nat), x]) ∧ ∀ xs, SqT K H a xs → xs[i]? = some x, fun i H => ∃ xs : List V, SqT K H a xs ∧ xs.length ≤ i⟩
theorem turn_enumT {P : Program} {w : World} {K : PySem.W.Frag} {elts : List Expr} {kk : Nat} {tpos : Pos} (a e it : Addr) :
    Turn P w K (.Tuple elts kk tpos) (IteT K a) [e, it] e (fun i h => (∃ old, IsEnum h e it ((i : Nat) : Int) old) ∧ h.IsTupleIter it a i ∧ e ≠ it) where
  mem := by simp
  obj := fun i h st b hb => by
    obtain ⟨⟨old, he⟩, ⟨o, ho, hc, hd⟩, _⟩ := st
    have e' : b = e ∨ b = it := by simpa using hb
    rcases e' with z | z
    · rw [z]; exact ⟨_, he, fun v q => nomatch q⟩
    · rw [z]; exact ⟨o, ho, fun v q => by rw [hd] at q; cases q⟩
  keep := fun i h h' st k => let ⟨⟨old, he⟩, hi, hne⟩ := st; ⟨⟨old, k e (by simp) _ he⟩, hi.at fun o q => k it (by simp) o q, hne⟩
  item := by
    intro X hP hw hK hc i pins s σ H E I hf st hg
    subst hP hw hK
    obtain ⟨⟨old, he⟩, hit, hne⟩ := st
    obtain ⟨xs, x, hq, hx⟩ := hg
    obtain ⟨its, rv, p, hz⟩ := I.tuple hq
    obtain ⟨u, hu, ru⟩ := rv.get hx
    have hel : e < s.heap.objs.size := Heap.lt_size he
    have hil : it < s.heap.objs.size := by obtain ⟨_, q, _⟩ := hit; exact Heap.lt_size q
    have hT : s.heap.IsTuple a its.toArray := p
    have hai : a ≠ it := fun z => by
      obtain ⟨o1, q1, c1, d1⟩ := hit
      obtain ⟨o2, q2, c2, _⟩ := hT
      rw [z, q1] at q2
      cases q2
      rw [c1] at c2
      exact absurd (Value.type.inj c2) (by decide)
    have hae : e ≠ a := fun z => by
      obtain ⟨o2, q2, c2, _⟩ := hT
      have he' : s.heap.get? e = some _ := he
      rw [z, q2] at he'
      cases he'
      exact absurd (Value.type.inj c2) (by decide)
    have hin : i < its.toArray.size := by
      have z := (List.getElem?_eq_some_iff.mp hu).1
      simpa using z
    refine wpAny_pyNext_enum_itemD (Draws.tuple (prog := X.prog) (w := X.w) (A := X.A.in1) (show X.A.in1.handled = none from I.ok.hd hc) it a hai its.toArray) he ⟨hit, hT⟩ hin hne (by simp [hne, hae]) fun x' h' tk hx' ho hst hT' hsz hk => ?_
    have ex : x' = u := by
      have z : its.toArray[i]? = some u := by simpa using hu
      exact Option.some.inj (hx'.symm.trans z)
    subst ex
    refine ⟨_, rfl, wpAny_letOwnedTupleGo_enum (s := { s with heap := h', toks := tk + 1 }) ho fun h'' he' sb => ?_⟩
    have hT2 : h''.get? s.heap.objs.size = some { cls := .type "tuple", data := .seq #[.int i tk, x'] } := (sb.2 _ (Nat.ne_of_gt hel)).trans hT'
    have new : ObjOk X.prog X.w (upd H s.heap.objs.size (.tup [.int (i : Nat), x])) h'' s.heap.objs.size (.tup [.int (i : Nat), x]) :=
      ⟨by show 2 ≤ sizeLine; decide, [.int i tk, x'], .cons ⟨_, rfl⟩ (.cons ru .nil), ⟨_, hT2, rfl, _, rfl⟩⟩
    have I1 : Inv X pins σ (upd H s.heap.objs.size (.tup [.int (i : Nat), x])) { s with heap := h'', toks := tk + 1 } :=
      I.turnedNew (ch := [e, it]) (fun b ob hb q => (sb.2 b (fun z => hb (by simp [z]))).trans (hk b ob (fun z => hb (by simp [z])) (fun z => hb (by simp [z])) q)) hf (Nat.le_refl _) new
    refine ⟨.ref s.heap.objs.size, _, I1, rfl, ⟨_, x, rfl, I.hok.fresh (Nat.le_refl _), rfl, fun ys hy => by rw [I.tuple_inj hy hq]; exact hx⟩, ⟨⟨x', ?_⟩, hst.1.at fun o q => (sb.2 it (Ne.symm hne)).trans q, hne⟩, fun b hb => ?_⟩
    · have e1 : ((i + 1 : Nat) : Int) = (i : Int) + 1 := by omega
      rw [e1]; exact he'
    · have hb' : b < s.heap.objs.size := by
        have e' : b = e ∨ b = it := by simpa using hb
        rcases e' with z | z
        · rw [z]; exact hel
        · rw [z]; exact hil
      rw [upd_ne (Nat.ne_of_lt hb')]
      exact (hf b hb).1
  done := by
    intro X hP hw hK hc i pins s σ H E I hf st hg
    subst hP hw hK
    obtain ⟨⟨old, he⟩, hit, hne⟩ := st
    obtain ⟨xs, hq, hx⟩ := hg
    obtain ⟨its, rv, p, hz⟩ := I.tuple hq
    obtain ⟨f0, f1, f2, f3, f4, f5⟩ := hf it (by simp)
    have hl := rv.length
    have hT : s.heap.IsTuple a its.toArray := p
    exact bm_enum_end (I.ok.hd hc) he hit hT (by simp; omega) fun h' eb => ⟨rfl, I.turned (t' := s.toks) (fun b o hb q => eb b o hb q) f0 f1 f3 f4 f5⟩
  self := fun A i s Q E st h => let ⟨⟨_, he⟩, _⟩ := st; wpAny_pyIter_enum he h
/-- for i, x in enumerate(xs), xs a list or a tuple -/
def iEnumA (K : PySem.W.Frag) (ta : TA) : TI := fun σ H R => ta σ H fun vs H1 => ∃ a xs, vs = [.ref a] ∧ ((SqL K H1 a xs ∧ R (Ite K a) H1) ∨ (SqT K H1 a xs ∧ R (IteT K a) H1))
theorem pi_enumA {X : Cx} {e : Expr} {ta : TA} {p pos tpos : Pos} {elts : List Expr} {kk : Nat} (hg : Gl X "enumerate") (hm : X.mg "enumerate" = none) (ha : PA X [e] ta) (hs : starEach [e] X.env = [(false, eval e X.env)] := by rfl) :
    PI X (.Tuple elts kk tpos) (.Call (.Name "enumerate" p) [e] [] pos) (iEnumA X.K ta) := by
  refine ⟨fun pins s σ H R I h => ?_⟩
  refine Call_ (ld_blt I hg hm boot_enumerate (PyProof.Rows.callWith_type1 (thn (ha.run pos pins s σ H _ I h) fun us s1 ⟨vs, H1, I1, r1, q1⟩ => ?_) hs rfl))
  obtain ⟨a, xs, ex, q1⟩ := q1
  subst ex
  cases r1 with
  | cons r rr =>
    cases rr
    cases r
    have fp : ∀ b ∈ [s1.heap.objs.size + 1, s1.heap.objs.size], FpOk X pins H1 b := fun b hb => by
      have e' : b = s1.heap.objs.size + 1 ∨ b = s1.heap.objs.size := by simpa using hb
      have hle : s1.heap.objs.size ≤ b := by
        rcases e' with z | z
        · rw [z]; exact Nat.le_add_right _ _
        · rw [z]; exact Nat.le_refl _
      exact I1.fpOk hle (I1.hok.fresh hle)
    rcases q1 with ⟨hq, q⟩ | ⟨hq, q⟩
    · obtain ⟨its, rv, p', hz⟩ := I1.list hq
      refine call_enumerate_list p'.isList fun h' he hit hsz hk => wpAny_pyIter_enum he ?_
      have I2 : Inv X pins σ H1 { s1 with heap := h' } := I1.kept (t' := s1.toks) hk
      exact ⟨s1.heap.objs.size + 1, [s1.heap.objs.size + 1, s1.heap.objs.size], _, _, H1, rfl, I2, turn_enum a (s1.heap.objs.size + 1) s1.heap.objs.size, ⟨⟨.none, he⟩, hit, Nat.succ_ne_self _⟩, fp, q⟩
    · obtain ⟨its, rv, p', hz⟩ := I1.tuple hq
      refine bm_enum_begins (begins_tuple a its.toArray) (show s1.heap.IsTuple a its.toArray from p') fun h' he hit hsz hk => wpAny_pyIter_enum he ?_
      have I2 : Inv X pins σ H1 { s1 with heap := h' } := I1.kept (t' := s1.toks) hk
      exact ⟨s1.heap.objs.size + 1, [s1.heap.objs.size + 1, s1.heap.objs.size], _, _, H1, rfl, I2, turn_enumT a (s1.heap.objs.size + 1) s1.heap.objs.size, ⟨⟨.none, he⟩, ⟨_, hit, rfl, rfl⟩, Nat.succ_ne_self _⟩, fp, q⟩
/-- for x in xs, xs a list or a tuple -/
def iSeq (K : PySem.W.Frag) (tl : TE) : TI := fun σ H R => tl σ H fun x H1 => ∃ a, x = .ref a ∧ (((∃ xs, SqL K H1 a xs) ∧ R (Itl K a) H1) ∨ ((∃ xs, SqT K H1 a xs) ∧ R (Itt K a) H1))
theorem pi_seq {X : Cx} {tg : Expr} {l : Expr} {tl : TE} (hl : PE X l tl) : PI X tg l (iSeq X.K tl) := by
  refine ⟨fun pins s σ H R I h => ?_⟩
  refine thn (hl.run pins s σ H _ I h) fun v s1 ⟨x, H1, I1, r1, q1⟩ => ?_
  obtain ⟨a, e, q1⟩ := q1
  subst e
  cases r1
  have fp : ∀ b ∈ [s1.heap.objs.size], FpOk X pins H1 b := fun b hb => by
    have e : b = s1.heap.objs.size := by simpa using hb
    subst e
    exact I1.fpOk (Nat.le_refl _) (I1.hok.fresh (Nat.le_refl _))
  rcases q1 with ⟨⟨xs, hq⟩, q⟩ | ⟨⟨xs, hq⟩, q⟩
  · obtain ⟨its, rv, p, hz⟩ := I1.list hq
    refine wpAny_pyIter_list p.isList ?_
    exact ⟨s1.heap.objs.size, [s1.heap.objs.size], _, _, H1, rfl, I1.kept (t' := s1.toks) fun b o e => Heap.get?_push_of_some _ e, turn_list a _, ⟨_, Heap.get?_push_size _ rfl, rfl, rfl⟩, fp, q⟩
  · obtain ⟨its, rv, p, hz⟩ := I1.tuple hq
    refine wpAny_pyIter_tuple (show s1.heap.IsTuple a its.toArray from p) ?_
    exact ⟨s1.heap.objs.size, [s1.heap.objs.size], _, _, H1, rfl, I1.kept (t' := s1.toks) fun b o e => Heap.get?_push_of_some _ e, turn_tuple a _, ⟨_, Heap.get?_push_size _ rfl, rfl, rfl⟩, fp, q⟩
end Bm
set_option Elab.async false
set_option linter.all false
set_option maxRecDepth 100000
set_option maxHeartbeats 4000000
namespace Bm
open PySem PySem.Spec PyProof.Rows L2
def rN (g : Nat → Nat → Nat) : R2 := fun x y H Q => ∃ n m : Nat, x = .int (n : Int) ∧ y = .int (m : Int) ∧ Q (.int ((g n m : Nat) : Int)) H
def rNc (C : Nat → Nat → Prop) (g : Nat → Nat → Nat) : R2 := fun x y H Q => ∃ n m : Nat, x = .int (n : Int) ∧ y = .int (m : Int) ∧ C n m ∧ Q (.int ((g n m : Nat) : Int)) H
section
variable {X : Cx}
theorem xor_nn (n m : Nat) : Builtin.bitXor (n : Int) (m : Int) = ((n ^^^ m : Nat) : Int) := by
  rw [Bits.bitXor_pp (by omega) (by omega), Int.toNat_natCast, Int.toNat_natCast]
def CShN (n m : Nat) : Prop := n < 2 ^ 64 ∧ m ≤ 1000000
end
theorem get_list {X : Cx} : PGet X (rIxL X.K) := by
  intro pins s σ H x y v u Q I rx ry h
  obtain ⟨p, xs, i, z, rfl, rfl, hq, he, q⟩ := h
  cases rx
  obtain ⟨t, rfl⟩ := ry
  obtain ⟨its, r, pl, hz⟩ := I.list hq
  obtain ⟨j, h1, h2, h3, h4, h5⟩ := atI_get he
  obtain ⟨w, ew, rw'⟩ := r.get h2
  have hl := r.length
  have hn := line63
  have fin : EP X pins σ Q w s := ⟨z, H, I, rw', q⟩
  by_cases h0 : 0 ≤ i
  · have hj : i.toNat = j := by
      rw [seqIndex_of h0 h5] at h1
      exact Option.some.inj h1
    exact wpAny_getItem_list pl.isList h0 (by omega) (by rw [hj]; simpa using ew) fin
  · have hj : (i + (its.toArray.size : Int)).toNat = j := by
      rw [seqIndex_neg (by omega) h4] at h1
      rw [List.size_toArray, ← hl]
      exact Option.some.inj h1
    exact wpAny_getItem_list_neg pl.isList (by omega) (by rw [List.size_toArray] <;> omega) (by omega) (by rw [hj]; simpa using ew) fin
section
variable {K : PySem.W.Frag} {H H' : Hp} {a : Addr} {xs : List V}
theorem rd_at {u : HO} (k : ∀ o, H a = some o → H' a = some o) (h : Rd H a u) : Rd H' a u := by
  rcases h with h | ⟨o, h⟩
  · exact .inl (k _ h)
  · exact .inr ⟨o, k _ h⟩
theorem sqL_at (k : ∀ o, H a = some o → H' a = some o) (h : SqL K H a xs) : SqL K H' a xs := by
  rcases h with h | h
  · exact .inl (rd_at k h)
  · exact .inr h
theorem sqT_at (k : ∀ o, H a = some o → H' a = some o) (h : SqT K H a xs) : SqT K H' a xs := by
  rcases h with h | h
  · exact .inl (rd_at k h)
  · exact .inr h
theorem SqA.at_ (h : SqA K H a xs) (k : ∀ o, H a = some o → H' a = some o) : SqA K H' a xs := h.imp (sqL_at k) (sqT_at k)
theorem SqA.same (h : SqA K H a xs) (e : Same H H') : SqA K H' a xs := h.at_ fun o q => e a o q
abbrev ForP (J : It) (g : TG) (tb : TS) (D : Ends) (σ : L2.St) (H1 : Hp) : Prop := ∃ W : Nat → Nat → L2.St → Hp → Prop, (∃ m, W 0 m σ H1) ∧ ∀ i m σ H, W i m σ H →
  (J.stop i H ∧ D.nx σ H) ∨ (J.go i H ∧ ∃ N : L2.St → Hp → Prop, (∀ σ' H', N σ' H' → ∃ m', m' < m ∧ W (i + 1) m' σ' H') ∧ ∀ x H', J.yld i H x H' → g x σ H' fun σ2 H2 => tb { D with nx := N, ct := N, bk := D.nx } σ2 H2)
abbrev LcP (J : It) (g : TG) (tt : TT) (te : TE) (vs : List Nat) (σ : L2.St) (H1 : Hp) (D : Addr) (Qd : Hp → Prop) : Prop := ∃ W : Nat → Nat → Hp → Prop, (∃ m, W 0 m (upd H1 D (.lst []))) ∧ ∀ i m H, W i m H →
  (J.stop i H ∧ Qd H) ∨ (J.go i H ∧ ∃ Nx : Hp → Prop, (∀ H', Nx H' → ∃ m', m' < m ∧ W (i + 1) m' H') ∧ ∀ x H', J.yld i H x H' → g x (wipe σ vs) H' fun σ2 H2 => wipe σ2 vs = wipe σ vs ∧ tt σ2 H2 fun b H3 =>
    if b = true then te σ2 H3 fun y H4 => ∃ acc, H4 D = some (.lst acc) ∧ acc.length < sizeLine ∧ Nx (upd H4 D (.lst (acc ++ [y]))) else Nx H3)
end
def tyName : V → Option String
  | .non => some "NoneType"
  | .bl _ => some "bool"
  | .int _ => some "int"
  | .str _ => some "str"
  | _ => none
end Bm
set_option Elab.async false
set_option linter.all false
set_option maxRecDepth 100000
set_option maxHeartbeats 4000000
namespace Bm
open PySem PySem.Spec PyProof.Rows L2
theorem iof {mg : Str → Option Value} {x : Str} {i : Int} (h : ∃ t, mg x = some (.int i t)) : ∃ u, mg x = some u ∧ RelV (.int i) u := by
  obtain ⟨t, h⟩ := h
  exact ⟨_, h, t, rfl⟩
section
variable {P : Program} {w : World} {K : PySem.W.Frag} {mg : Str → Option Value} {base : Heap}
/-- from a def and its promise to what callers use -/
theorem Fn.of {CX : CXT} {k : Nat} {x qual : Str} {params : Arguments} {body : List Stmt} {scope : Scope} {dvs dv0 : List V} {f : Addr} {fd : FuncData} {ps : List Str} {sp : Sp} (F : FunD K x qual params body scope dv0 [] f fd) (g : mg x = some (.ref f)) (b : ∃ ds, Vals dvs ds ∧ L2.Binds K fd ps ds)
    (ok : FnOk P w K mg base CX k f fd ps sp) : Fn P w K mg base CX k x sp dvs := by
  obtain ⟨ds, h1, h2⟩ := b
  exact ⟨f, fd, ps, ds, g, F.kp, h2, h1, ok⟩
theorem bnd0 {x qual : Str} {params : Arguments} {body : List Stmt} {scope : Scope} {f : Addr} {fd : FuncData} {ps : List Str} (F : FunD K x qual params body scope [] [] f fd)
    (h : ∀ (kV doc pm : Value) (an : Option Addr) (cdv ct : Value) (us : List Value), us.length = ps.length → bindArgs (PySem.W.fnOf x qual params body scope .none kV doc pm an cdv ct) ⟨us, []⟩ = pure (ps.zip us)) : ∃ ds, Vals [] ds ∧ L2.Binds K fd ps ds :=
  ⟨[], .nil, F.bindsN h⟩
end
theorem iteDT {p A B : Prop} [Decidable p] (h : p) (a : A) : if decide p = true then A else B := by
  rw [if_pos (decide_eq_true h)]
  exact a
theorem iteDF {p A B : Prop} [Decidable p] (h : ¬ p) (b : B) : if decide p = true then A else B := by
  rw [if_neg (by rw [decide_eq_false h]; exact Bool.false_ne_true)]
  exact b
theorem iteBT {b : Bool} {A B : Prop} (h : b = true) (a : A) : if b = true then A else B := by
  rw [if_pos h]
  exact a
theorem iteBF {b : Bool} {A B : Prop} (h : b = false) (a : B) : if b = true then A else B := by
  rw [h]
  exact iteF a
inductive Kd (K : PySem.W.Frag) (H : Hp) : V → String → Prop
  | non : Kd K H .non "NoneType"
  | bl (b : Bool) : Kd K H (.bl b) "bool"
  | int (i : Int) : Kd K H (.int i) "int"
  | str (x : Str) : Kd K H (.str x) "str"
  | lst {a : Addr} {xs : List V} (h : SqL K H a xs) : Kd K H (.ref a) "list"
  | tup {a : Addr} {xs : List V} (h : SqT K H a xs) : Kd K H (.ref a) "tuple"
end Bm
namespace Bm
open PySem PySem.Spec PyProof.Rows L2
section
variable {K : PySem.W.Frag} {H H' : Hp} {v : V} {n : String}
theorem ty_lst {a : Addr} {xs : List V} (h : SqL K H a xs) : TyX K H (.ref a) (.type "list") := by
  rcases h with (h | ⟨o, h⟩) | ⟨o, its, m, h, hc, _⟩
  · exact .base (.lst h)
  · exact .base (.frz h)
  · exact .kList h hc
theorem ty_tup {a : Addr} {xs : List V} (h : SqT K H a xs) : TyX K H (.ref a) (.type "tuple") := by
  rcases h with (h | ⟨o, h⟩) | ⟨o, its, m, h, hc, _⟩
  · exact .base (.tup h)
  · exact .fTuple h
  · exact .kTuple h hc
theorem Kd.ty (k : Kd K H v n) : TyX K H v (.type n) := by
  cases k with
  | non => exact .base .non
  | bl b => exact .base (.bl b)
  | int i => exact .base (.int i)
  | str x => exact .base (.str x)
  | lst h => exact ty_lst h
  | tup h => exact ty_tup h
theorem Kd.same (k : Kd K H v n) (e : Same H H') : Kd K H' v n := by
  cases k with
  | non => exact .non
  | bl b => exact .bl b
  | int i => exact .int i
  | str x => exact .str x
  | lst h => exact .lst (e.seq h)
  | tup h => exact .tup (sqT_at (fun o q => e _ o q) h)
def isiB (n c : String) : Bool := decide (n = c) || (decide (c = "int") && decide (n = "bool"))
def kdNames : List String := ["NoneType", "bool", "int", "str", "list", "tuple"]
theorem Kd.mem (k : Kd K H v n) : n ∈ kdNames := by cases k <;> decide
theorem kit_all : ∀ n ∈ kdNames, ∀ c ∈ ["int", "bool", "str", "list", "tuple"], kitB n c = some (isiB n c) := by decide +kernel
theorem Kd.kit (k : Kd K H v n) {c : String} (hc : c ∈ ["int", "bool", "str", "list", "tuple"]) : PySem.W.kitOne K (.type n) (.type c) = some (isiB n c) := kit_ty (kit_all n k.mem c hc)
theorem isi_ok {c : String} {Q : VK} (k : Kd K H v n) (hc : c ∈ ["int", "bool", "str", "list", "tuple"]) (q : Q (.bl (isiB n c)) H) : rIsi K [v, .ty c] H Q :=
  ⟨v, .ty c, .type n, .type c, isiB n c, rfl, .ty c, k.ty, kit_ty (kit_all n k.mem c hc), q⟩
def isWhole (v : V) (lo hi : Int) : Bool := match v with
  | .int i => decide (lo ≤ i) && decide (i ≤ hi)
  | _ => false
def spWhole (K : PySem.W.Frag) : Sp := fun vs H Q _ => ∃ (v : V) (n : String) (lo hi : Int), vs = [v, .int lo, .int hi] ∧ Kd K H v n ∧ Q (.bl (isWhole v lo hi)) H
def oddB (n : Nat) : Bool := if h : n = 0 then false else (n % 2 == 1) ^^ oddB (n / 2)
decreasing_by omega
theorem oddB_zero : oddB 0 = false := by unfold oddB; rfl
theorem oddB_step {n : Nat} (h : n ≠ 0) : oddB n = ((n % 2 == 1) ^^ oddB (n / 2)) := by
  conv => lhs; unfold oddB
  rw [dif_neg h]
def spOdd : Sp := fun vs H Q _ => ∃ n : Nat, vs = [.int (n : Int)] ∧ Q (.bl (oddB n)) H
end
end Bm
set_option autoImplicit false
set_option Elab.async false
set_option linter.all false
set_option maxRecDepth 100000
set_option maxHeartbeats 4000000
namespace Lk26
open PySem PySem.Spec PyProof.Rows L2 Bm
local macro_rules
  | `(tactic| array_get_dec) => `(tactic| first | refine ⟨_, rfl, ?_⟩ | refine ⟨_, _, rfl, rfl, ?_⟩ | refine ⟨rfl, ?_⟩ | refine ⟨_, _, rfl, ?_⟩ | refine ⟨⟨_, rfl⟩, ?_⟩ | refine iteDT (by decide) ?_ | refine iteDF (by decide) ?_ | refine iteBT (by decide) ?_ | refine iteBF (by decide) ?_ | refine ⟨_, _, rfl, rfl, ⟨by decide, by decide⟩, ?_⟩)
local macro_rules
  | `(tactic| and_intros) => `(tactic| (repeat (array_get_dec)))
structure Txt (K : PySem.W.Frag) (mg : Str → Option Value) : Prop where
  y : Bm.XF2 ["BadDeed", "BadReach", "NoDeed", "BadCount", "NoMend"] ["BadImage", "BadGiven", "BadList"] K
  x : Bm.XF K
  g_is_whole : mg "is_whole" = some (.ref (He.ga K "is_whole"))
  g_is_odd : mg "is_odd" = some (.ref (He.ga K "is_odd"))
  g_columns_of : mg "columns_of" = some (.ref (He.ga K "columns_of"))
  g_need_block : mg "need_block" = some (.ref (He.ga K "need_block"))
  g_bits_in : mg "bits_in" = some (.ref (He.ga K "bits_in"))
  g_mended : mg "mended" = some (.ref (He.ga K "mended"))
  g_law_start : mg "_law_start" = some (.ref (He.ga K "_law_start"))
  g_law_drawn : mg "_law_drawn" = some (.ref (He.ga K "_law_drawn"))
  g_law_same : mg "_law_same" = some (.ref (He.ga K "_law_same"))
  g_law_kind : mg "_law_kind" = some (.ref (He.ga K "_law_kind"))
  g_law_is_odd : mg "_law_is_odd" = some (.ref (He.ga K "_law_is_odd"))
  g_law_block : mg "_law_block" = some (.ref (He.ga K "_law_block"))
  g_law_flipped : mg "_law_flipped" = some (.ref (He.ga K "_law_flipped"))
  g_law_due : mg "_law_due" = some (.ref (He.ga K "_law_due"))
  g_law : mg "law" = some (.ref (He.ga K "law"))
  c_MillError : mg "MillError" = some (.ref (He.ga K "MillError"))
  c_BadDeed : mg "BadDeed" = some (.ref (He.ga K "BadDeed"))
  c_BadReach : mg "BadReach" = some (.ref (He.ga K "BadReach"))
  c_NoDeed : mg "NoDeed" = some (.ref (He.ga K "NoDeed"))
  c_BadCount : mg "BadCount" = some (.ref (He.ga K "BadCount"))
  c_NoMend : mg "NoMend" = some (.ref (He.ga K "NoMend"))
  c_Numbered : mg "Numbered" = some (.ref (He.ga K "Numbered"))
  c_BadImage : mg "BadImage" = some (.ref (He.ga K "BadImage"))
  c_BadGiven : mg "BadGiven" = some (.ref (He.ga K "BadGiven"))
  c_BadList : mg "BadList" = some (.ref (He.ga K "BadList"))
  c_BadRow : mg "BadRow" = some (.ref (He.ga K "BadRow"))
  b_ValueError : mg "ValueError" = none
  b_bool : mg "bool" = none
  b_enumerate : mg "enumerate" = none
  b_int : mg "int" = none
  b_isinstance : mg "isinstance" = none
  b_len : mg "len" = none
  b_list : mg "list" = none
  b_range : mg "range" = none
  b_sum : mg "sum" = none
  b_tuple : mg "tuple" = none
  i_LAST : ∃ u, mg "LAST" = some u ∧ RelV (.int 65535) u
  i_MOST_BLOCK : ∃ u, mg "MOST_BLOCK" = some u ∧ RelV (.int 14) u
structure Defs (K : PySem.W.Frag) : Prop where
  is_whole : ∃ fd, FunD K "is_whole" "is_whole" (defArgs s_is_whole) (defBody s_is_whole) (defScope s_is_whole) [.int (0), .int (65535)] [] (He.ga K "is_whole") fd
  is_odd : ∃ fd, FunD K "is_odd" "is_odd" (defArgs s_is_odd) (defBody s_is_odd) (defScope s_is_odd) [] [] (He.ga K "is_odd") fd
  Numbered_init : ∃ fd, FunD K "__init__" "Numbered.__init__" (defArgs s_Numbered_init) (defBody s_Numbered_init) (defScope s_Numbered_init) [] [] (He.ma K (He.ga K "Numbered") "__init__") fd
  BadRow_init : ∃ fd, FunD K "__init__" "BadRow.__init__" (defArgs s_BadRow_init) (defBody s_BadRow_init) (defScope s_BadRow_init) [] [] (He.ma K (He.ga K "BadRow") "__init__") fd
  columns_of : ∃ fd, FunD K "columns_of" "columns_of" (defArgs s_columns_of) (defBody s_columns_of) (defScope s_columns_of) [] [] (He.ga K "columns_of") fd
  need_block : ∃ fd, FunD K "need_block" "need_block" (defArgs s_need_block) (defBody s_need_block) (defScope s_need_block) [] [] (He.ga K "need_block") fd
  bits_in : ∃ fd, FunD K "bits_in" "bits_in" (defArgs s_bits_in) (defBody s_bits_in) (defScope s_bits_in) [] [] (He.ga K "bits_in") fd
  mended : ∃ fd, FunD K "mended" "mended" (defArgs s_mended) (defBody s_mended) (defScope s_mended) [] [] (He.ga K "mended") fd
  law_start : ∃ fd, FunD K "_law_start" "_law_start" (defArgs s_law_start) (defBody s_law_start) (defScope s_law_start) [] [] (He.ga K "_law_start") fd
  law_drawn : ∃ fd, FunD K "_law_drawn" "_law_drawn" (defArgs s_law_drawn) (defBody s_law_drawn) (defScope s_law_drawn) [] [] (He.ga K "_law_drawn") fd
  law_same : ∃ fd, FunD K "_law_same" "_law_same" (defArgs s_law_same) (defBody s_law_same) (defScope s_law_same) [] [] (He.ga K "_law_same") fd
  law_kind : ∃ fd, FunD K "_law_kind" "_law_kind" (defArgs s_law_kind) (defBody s_law_kind) (defScope s_law_kind) [] [] (He.ga K "_law_kind") fd
  law_is_odd : ∃ fd, FunD K "_law_is_odd" "_law_is_odd" (defArgs s_law_is_odd) (defBody s_law_is_odd) (defScope s_law_is_odd) [] [] (He.ga K "_law_is_odd") fd
  law_block : ∃ fd, FunD K "_law_block" "_law_block" (defArgs s_law_block) (defBody s_law_block) (defScope s_law_block) [] [] (He.ga K "_law_block") fd
  law_flipped : ∃ fd, FunD K "_law_flipped" "_law_flipped" (defArgs s_law_flipped) (defBody s_law_flipped) (defScope s_law_flipped) [] [] (He.ga K "_law_flipped") fd
  law_due : ∃ fd, FunD K "_law_due" "_law_due" (defArgs s_law_due) (defBody s_law_due) (defScope s_law_due) [] [] (He.ga K "_law_due") fd
  law : ∃ fd, FunD K "law" "law" (defArgs s_law) (defBody s_law) (defScope s_law) [] [] (He.ga K "law") fd
theorem txt_of {w : World} {K : PySem.W.Frag} {h : Heap} {mg : Str → Option Value} (X : K.In h) (G : h.Ns mainGlobals mg) (c : He.SaysX fa fn ts tf xAll w h K) : Txt K mg :=
  ⟨Bm.xB2_ok (He.ba c.more).1,
   Bm.xB_ok (He.ba c.more).2,
   He.glo_ok X G (c.t.d.fact 0 (f := .glo "is_whole") rfl),
   He.glo_ok X G (c.t.d.fact 1 (f := .glo "is_odd") rfl),
   He.glo_ok X G (c.t.d.fact 2 (f := .glo "columns_of") rfl),
   He.glo_ok X G (c.t.d.fact 3 (f := .glo "need_block") rfl),
   He.glo_ok X G (c.t.d.fact 4 (f := .glo "bits_in") rfl),
   He.glo_ok X G (c.t.d.fact 5 (f := .glo "mended") rfl),
   He.glo_ok X G (c.t.d.fact 6 (f := .glo "_law_start") rfl),
   He.glo_ok X G (c.t.d.fact 7 (f := .glo "_law_drawn") rfl),
   He.glo_ok X G (c.t.d.fact 8 (f := .glo "_law_same") rfl),
   He.glo_ok X G (c.t.d.fact 9 (f := .glo "_law_kind") rfl),
   He.glo_ok X G (c.t.d.fact 10 (f := .glo "_law_is_odd") rfl),
   He.glo_ok X G (c.t.d.fact 11 (f := .glo "_law_block") rfl),
   He.glo_ok X G (c.t.d.fact 12 (f := .glo "_law_flipped") rfl),
   He.glo_ok X G (c.t.d.fact 13 (f := .glo "_law_due") rfl),
   He.glo_ok X G (c.t.d.fact 14 (f := .glo "law") rfl),
   He.glo_ok X G (c.t.d.fact 15 (f := .glo "MillError") rfl),
   He.glo_ok X G (c.t.d.fact 16 (f := .glo "BadDeed") rfl),
   He.glo_ok X G (c.t.d.fact 17 (f := .glo "BadReach") rfl),
   He.glo_ok X G (c.t.d.fact 18 (f := .glo "NoDeed") rfl),
   He.glo_ok X G (c.t.d.fact 19 (f := .glo "BadCount") rfl),
   He.glo_ok X G (c.t.d.fact 20 (f := .glo "NoMend") rfl),
   He.glo_ok X G (c.t.d.fact 21 (f := .glo "Numbered") rfl),
   He.glo_ok X G (c.t.d.fact 22 (f := .glo "BadImage") rfl),
   He.glo_ok X G (c.t.d.fact 23 (f := .glo "BadGiven") rfl),
   He.glo_ok X G (c.t.d.fact 24 (f := .glo "BadList") rfl),
   He.glo_ok X G (c.t.d.fact 25 (f := .glo "BadRow") rfl),
   He.free_ok X G (c.t.d.fact 26 (f := .free "ValueError") rfl),
   He.free_ok X G (c.t.d.fact 27 (f := .free "bool") rfl),
   He.free_ok X G (c.t.d.fact 28 (f := .free "enumerate") rfl),
   He.free_ok X G (c.t.d.fact 29 (f := .free "int") rfl),
   He.free_ok X G (c.t.d.fact 30 (f := .free "isinstance") rfl),
   He.free_ok X G (c.t.d.fact 31 (f := .free "len") rfl),
   He.free_ok X G (c.t.d.fact 32 (f := .free "list") rfl),
   He.free_ok X G (c.t.d.fact 33 (f := .free "range") rfl),
   He.free_ok X G (c.t.d.fact 34 (f := .free "sum") rfl),
   He.free_ok X G (c.t.d.fact 35 (f := .free "tuple") rfl),
   Bm.iof (He.int_ok X G (c.t.d.fact 36 (f := .int "LAST" 65535) rfl)),
   Bm.iof (He.int_ok X G (c.t.d.fact 37 (f := .int "MOST_BLOCK" 14) rfl))⟩
theorem defs_of {w : World} {K : PySem.W.Frag} {h : Heap} (c : He.SaysX fa fn ts tf xAll w h K) : Defs K :=
  ⟨c.t.d.def_ 0 (d := d_is_whole) rfl,
   c.t.d.def_ 1 (d := d_is_odd) rfl,
   c.t.d.def_ 2 (d := d_Numbered_init) rfl,
   c.t.d.def_ 3 (d := d_BadRow_init) rfl,
   c.t.d.def_ 4 (d := d_columns_of) rfl,
   c.t.d.def_ 5 (d := d_need_block) rfl,
   c.t.d.def_ 6 (d := d_bits_in) rfl,
   c.t.d.def_ 7 (d := d_mended) rfl,
   c.t.d.def_ 8 (d := d_law_start) rfl,
   c.t.d.def_ 9 (d := d_law_drawn) rfl,
   c.t.d.def_ 10 (d := d_law_same) rfl,
   c.t.d.def_ 11 (d := d_law_kind) rfl,
   c.t.d.def_ 12 (d := d_law_is_odd) rfl,
   c.t.d.def_ 13 (d := d_law_block) rfl,
   c.t.d.def_ 14 (d := d_law_flipped) rfl,
   c.t.d.def_ 15 (d := d_law_due) rfl,
   c.t.d.def_ 16 (d := d_law) rfl⟩
end Lk26
set_option Elab.async false
set_option linter.all false
set_option maxRecDepth 100000
set_option maxHeartbeats 4000000
namespace Bm
open PySem PySem.Spec PyProof.Rows L2
section
variable {P : Program} {w : World} {K : PySem.W.Frag} {mg : Str → Option Value} {base : Heap}
theorem fn_nothing {CX : CXT} {f : Addr} {fd : FuncData} {ps : List Str} : FnOk P w K mg base CX 0 f fd ps (fun _ _ _ _ => False) := ⟨fun _ _ _ _ h => h.elim, fun _ _ _ _ _ _ _ _ _ _ _ _ _ h => h.elim⟩
theorem Fn.mono {CX : CXT} {j k : Nat} {x : Str} {sp : Sp} {dvs : List V} (c : Fn P w K mg base CX j x sp dvs) (h : j ≤ k) : Fn P w K mg base CX k x sp dvs := by
  obtain ⟨f, fd, ps, ds, h1, h2, h3, h4, F⟩ := c.ex
  exact ⟨f, fd, ps, ds, h1, h2, h3, h4, F.mono h⟩
end
def rLenSq (K : PySem.W.Frag) : List V → Hp → VK → Prop := fun xs H Q => ∃ p ys, xs = [.ref p] ∧ (SqL K H p ys ∨ SqT K H p ys) ∧ Q (.int ys.length) H
def rListOf (K : PySem.W.Frag) : List V → Hp → VK → Prop := fun xs H Q => ∃ p ys, xs = [.ref p] ∧ (SqL K H p ys ∨ SqT K H p ys) ∧ ∀ l, H l = none → Q (.ref l) (upd H l (.lst ys))
def rTupleOf (K : PySem.W.Frag) : List V → Hp → VK → Prop := fun xs H Q => ∃ p ys, xs = [.ref p] ∧ ((SqL K H p ys ∧ ∀ l, H l = none → Q (.ref l) (upd H l (.tup ys))) ∨ (SqT K H p ys ∧ Q (.ref p) H))
def kdOf : PyData → String
  | .none => "NoneType"
  | .bool _ => "bool"
  | .int _ => "int"
  | .str _ => "str"
  | .list _ => "list"
  | .tuple _ => "tuple"
  | .dict _ => "dict"
/-- data of one flat thing -/
def flatD : PyData → Bool
  | .none | .bool _ | .int _ | .str _ => true
  | _ => false
end Bm
namespace L2
open PySem PySem.Spec PyProof.Rows Bm
theorem Same.new {H : Hp} {p : Addr} {o : HO} (h : H p = none) : Same H (upd H p o) := fun a u e => by
  rw [upd_ne (ne_of_none e h)]
  exact e
theorem Same.mut {H H' : Hp} {p : Addr} {o : HO} (e : Same H H') (h : H p = none) : Same H (upd H' p o) := fun a u ha => by
  rw [upd_ne (ne_of_none ha h)]
  exact e a u ha
theorem Same.seqT {K : PySem.W.Frag} {H H' : Hp} {a : Addr} {xs : List V} (e : Same H H') (h : SqT K H a xs) : SqT K H' a xs := sqT_at (fun o q => e a o q) h
mutual
theorem Dp.same {K : PySem.W.Frag} {H H' : Hp} (e : Same H H') : ∀ {d : PyData} {v : V}, Dp K H v d → Dp K H' v d
  | .none, _, h => by cases h; exact .non
  | .bool b, _, h => by cases h; exact .bl b
  | .int i, _, h => by cases h; exact .int i
  | .str x, _, h => by cases h; exact .str x
  | .list ds, _, h => by cases h with | lst h1 h2 => exact .lst (e.seq h1) (DpAll.same e h2)
  | .tuple ds, _, h => by cases h with | tup h1 h2 => exact .tup (Same.seqT e h1) (DpAll.same e h2)
  | .dict kvs, _, h => by cases h
theorem DpAll.same {K : PySem.W.Frag} {H H' : Hp} (e : Same H H') : ∀ {ds : List PyData} {vs : List V}, DpAll K H vs ds → DpAll K H' vs ds
  | [], _, h => by cases h; exact .nil
  | d :: ds, _, h => by cases h with | cons h1 h2 => exact .cons (Dp.same e h1) (DpAll.same e h2)
end
section
variable {K : PySem.W.Frag} {H H' : Hp}
theorem DpAll.length : ∀ {ds : List PyData} {vs : List V}, DpAll K H vs ds → vs.length = ds.length
  | [], _, h => by cases h; rfl
  | d :: ds, _, h => by cases h with | cons h1 h2 => simp [DpAll.length h2]
theorem DpAll.get : ∀ {ds : List PyData} {vs : List V} {i : Nat} {d : PyData}, DpAll K H vs ds → ds[i]? = some d → ∃ v, vs[i]? = some v ∧ Dp K H v d
  | [], _, _, _, h, e => by simp at e
  | d :: ds, _, 0, d', h, e => by
    cases h with
    | cons h1 h2 =>
      have e : d = d' := by simpa using e
      exact ⟨_, rfl, e ▸ h1⟩
  | d :: ds, _, i + 1, d', h, e => by
    cases h with
    | cons h1 h2 =>
      obtain ⟨v, a, b⟩ := DpAll.get (i := i) h2 (by simpa using e)
      exact ⟨v, by simpa using a, b⟩
theorem DpAll.mem : ∀ {ds : List PyData} {vs : List V} {v : V}, DpAll K H vs ds → v ∈ vs → ∃ d ∈ ds, Dp K H v d
  | [], _, _, h, e => by cases h; cases e
  | d :: ds, _, v, h, e => by
    cases h with
    | cons h1 h2 =>
      rcases List.mem_cons.mp e with rfl | e
      · exact ⟨d, List.mem_cons_self, h1⟩
      · obtain ⟨d', a, b⟩ := DpAll.mem h2 e
        exact ⟨d', List.mem_cons_of_mem _ a, b⟩
theorem DpAll.append : ∀ {ds es : List PyData} {vs us : List V}, DpAll K H vs ds → DpAll K H us es → DpAll K H (vs ++ us) (ds ++ es)
  | [], _, _, _, h, k => by cases h; exact k
  | d :: ds, _, _, _, h, k => by cases h with | cons h1 h2 => exact .cons h1 (DpAll.append h2 k)
theorem DpAll.ints : ∀ ns : List Int, DpAll K H (ns.map V.int) (ns.map PyData.int)
  | [] => .nil
  | n :: ns => .cons (.int n) (DpAll.ints ns)
theorem Dp.kd {v : V} {d : PyData} (h : Dp K H v d) : Kd K H v (kdOf d) := by
  cases h with
  | non => exact .non
  | bl b => exact .bl b
  | int i => exact .int i
  | str x => exact .str x
  | lst h1 h2 => exact .lst h1
  | tup h1 h2 => exact .tup h1
theorem Dp.flat_eq {v u : V} {d : PyData} (f : flatD d = true) (h : Dp K H v d) (h' : Dp K H u d) : v = u ∧ scal v v = true := by
  cases h with
  | non => cases h'; exact ⟨rfl, rfl⟩
  | bl b => cases h'; exact ⟨rfl, rfl⟩
  | int i => cases h'; exact ⟨rfl, rfl⟩
  | str x => cases h'; exact ⟨rfl, rfl⟩
  | lst h1 h2 => cases f
  | tup h1 h2 => cases f
end
end L2
namespace Bm
open PySem PySem.Spec PyProof.Rows L2
/-- how deep: 0 for flat things -/
def depD : Nat → PyData → Bool
  | 0, d => flatD d
  | n + 1, .list ds => decide (ds.length ≤ 100000) && ds.all (depD n)
  | n + 1, .tuple ds => decide (ds.length ≤ 100000) && ds.all (depD n)
  | _ + 1, .dict _ => false
  | _ + 1, _ => true
def spSame (K : PySem.W.Frag) (n : Nat) : Sp := fun vs H Q _ => ∃ (v u : V) (d : PyData), vs = [v, u] ∧ Dp K H v d ∧ Dp K H u d ∧ depD n d = true ∧ ∀ H', Same H H' → Q (.bl true) H'
/-- the state of the draws at st -/
def StAt (K : PySem.W.Frag) (st sc : Addr) (ns : List Int) (H : Hp) : Prop :=
  ∃ p m c : Int, H st = some (.lst [.ref sc, .int p, .int m, .int c]) ∧ 0 ≤ p ∧ 0 ≤ m ∧ m < 2147483647 ∧ 0 ≤ c ∧ SqL K H sc (ns.map V.int)
/-- all is kept but the state of the draws, which is again one -/
structure Kept (K : PySem.W.Frag) (st sc : Addr) (ns : List Int) (H H' : Hp) : Prop where
  keep : ∀ a o, a ≠ st → H a = some o → H' a = some o
  st : StAt K st sc ns H'
def spDrawn (K : PySem.W.Frag) : Sp := fun vs H Q _ => ∃ (st sc : Addr) (ns : List Int) (m : Int), vs = [.ref st, .int m] ∧ StAt K st sc ns H ∧ 0 < m ∧ m < 1073741824 ∧ ∀ r H', 0 ≤ r → r < m → Kept K st sc ns H H' → Q (.int r) H'
def spStart (K : PySem.W.Frag) : Sp := fun vs H Q _ => ∃ (sc : Addr) (ns : List Int), vs = [.ref sc] ∧ SqL K H sc (ns.map V.int) ∧ ns.length ≤ 1000 ∧ ∀ st H', H st = none → Same H H' → StAt K st sc ns H' → Q (.ref st) H'
end Bm
namespace Bm
open PySem PySem.Spec PyProof.Rows L2
theorem Kd.any2 {K : PySem.W.Frag} {H : Hp} {v : V} {n c1 c2 : String} (k : Kd K H v n) (h1 : c1 ∈ ["int", "bool", "str", "list", "tuple"]) (h2 : c2 ∈ ["int", "bool", "str", "list", "tuple"]) : PySem.W.kitAny K (.type n) [.type c1, .type c2] = some (isiB n c1 || isiB n c2) := by
  refine kitAny_cons (k.kit h1) (fun h => ?_) (fun h => ?_)
  · rw [h, Bool.false_or]
    refine kitAny_cons (k.kit h2) (fun h => ?_) (fun h => h)
    rw [h]
    exact kitAny_nil
  · rw [h, Bool.true_or]
end Bm
namespace Bm
open PySem PySem.Spec PyProof.Rows L2
def seqOf : PyData → Option (List PyData)
  | .list ds => some ds
  | .tuple ds => some ds
  | _ => none
theorem dp_seq {K : PySem.W.Frag} {H : Hp} {v : V} {d : PyData} (h : Dp K H v d) : (∃ ds, seqOf d = some ds ∧ (isiB (kdOf d) "tuple" || isiB (kdOf d) "list") = true ∧ ∃ a xs, v = .ref a ∧ SqA K H a xs ∧ DpAll K H xs ds) ∨ ((isiB (kdOf d) "tuple" || isiB (kdOf d) "list") = false ∧ flatD d = true) := by
  cases h with
  | non => exact .inr ⟨by decide, rfl⟩
  | bl b => exact .inr ⟨show (isiB "bool" "tuple" || isiB "bool" "list") = false by decide, rfl⟩
  | int i => exact .inr ⟨show (isiB "int" "tuple" || isiB "int" "list") = false by decide, rfl⟩
  | str x => exact .inr ⟨show (isiB "str" "tuple" || isiB "str" "list") = false by decide, rfl⟩
  | lst h1 h2 => exact .inl ⟨_, rfl, show (isiB "list" "tuple" || isiB "list" "list") = true by decide, _, _, rfl, .inl h1, h2⟩
  | tup h1 h2 => exact .inl ⟨_, rfl, show (isiB "tuple" "tuple" || isiB "tuple" "list") = true by decide, _, _, rfl, .inr h1, h2⟩
theorem dep_seq {n : Nat} {d : PyData} {ds : List PyData} (h : depD n d = true) (e : seqOf d = some ds) : ds.length ≤ 100000 ∧ ∃ m, n = m + 1 ∧ ∀ x ∈ ds, depD m x = true := by
  cases n with
  | zero =>
    cases d with
    | list xs => cases h
    | tuple xs => cases h
    | _ => cases e
  | succ m =>
    cases d with
    | list xs =>
      cases e
      obtain ⟨h1, h2⟩ := Bool.and_eq_true_iff.mp (show (decide (ds.length ≤ 100000) && ds.all (depD m)) = true from h)
      exact ⟨of_decide_eq_true h1, m, rfl, fun x hx => List.all_eq_true.mp h2 x hx⟩
    | tuple xs =>
      cases e
      obtain ⟨h1, h2⟩ := Bool.and_eq_true_iff.mp (show (decide (ds.length ≤ 100000) && ds.all (depD m)) = true from h)
      exact ⟨of_decide_eq_true h1, m, rfl, fun x hx => List.all_eq_true.mp h2 x hx⟩
    | _ => cases e
theorem rIx_ok {K : PySem.W.Frag} {H : Hp} {a : Addr} {xs : List V} {i : Int} {v : V} {Q : VK} (h : SqA K H a xs) (e : atI xs i = some v) (q : Q v H) : rIx K (.ref a) (.int i) H Q := by
  rcases h with h | h
  · exact .inl ⟨a, xs, i, v, rfl, rfl, h, e, q⟩
  · exact .inr (.inl ⟨a, xs, i, v, rfl, rfl, h, e, q⟩)
theorem at0 {xs : List V} {j : Nat} {v : V} (h : xs[j]? = some v) : atI xs (0 + (j : Int)) = some v := by
  rw [Int.zero_add]
  exact atI_nat h
end Bm
namespace Bm
open PySem PySem.Spec PyProof.Rows L2
def tXfA (K : PySem.W.Frag) (a : Addr) (cls : Value) (d : Option Addr) (n : Str) (te : TE) : TE := fun σ H Q => te σ H fun x H1 => x = .ref a ∧ ∃ (C dd : Addr) (fs : List (Str × V)) (v : V), cls = .ref C ∧ XfC K C ∧ PySem.W.findIn K (.ref C) n = some none ∧ d = some dd ∧ H1 dd = some (.xd fs) ∧ fs.lookup n = some v ∧ Q v H1
theorem pe_xfA {X : Cx} {a : Addr} {oe : Obj} {cls : Value} {d : Option Addr} {pn : List (Addr × Obj)} {e : Expr} {te : TE} {pos : Pos} {n : Str}
    (hz : Zc cls d oe) (hf : ∃ vs, oe.data = .fields vs) (he : PE (X.suite a ((a, oe) :: pn)) e te) (hb : attributeBase e n X.env (eval e X.env) = eval e X.env := by rfl) :
    PE (X.suite a ((a, oe) :: pn)) (.Attribute e n pos) (tXfA X.K a cls d n te) := by
  refine ⟨fun pins s σ H Q I h => ?_⟩
  refine attr_of hb (thn (he.run pins s σ H _ I h) fun u s1 hh => ?_)
  obtain ⟨x, H1, I1, rx, ex, C, dd, fs, v, ec, T, hno, ed, ea, l, q⟩ := hh
  subst ex
  obtain rfl : u = Value.ref a := rx
  subst ec
  subst ed
  obtain ⟨ha, _⟩ := I1.pin (a, oe) (List.mem_append_left _ List.mem_cons_self)
  obtain ⟨vs, hd⟩ := hf
  have hx : ObjOk X.prog X.w H1 s1.heap dd (.xd fs) := I1.hok dd _ ea
  obtain ⟨mA, hns, hr⟩ := hx
  obtain ⟨od, ho, hl⟩ := lookIn_ns hns
  obtain ⟨u, hu, ru⟩ := RelO.some_of (v := v) (o := mA n) (by rw [← l]; exact hr n)
  have J : PySem.W.InstAt s1.heap a oe C (some od) := ⟨ha, hz.1, by unfold PySem.W.notCls; rw [hd] <;> rfl, by rw [hz.2]; exact ho⟩
  exact HandSPX.exc_get I1.kIn J T.ga T.gg T.exC (PySem.W.findObj_own T.hdC hno rfl (by rw [hl, hu])) (handed_of ru) ⟨v, H1, I1.tok _, ru, q⟩
def KindE (K : PySem.W.Frag) (Q : VK) : XK := fun cls d H => ∃ x ∈ allX, cls = .ref (He.ga K x) ∧
  ((x ∈ plainX ∧ d = none ∧ ∀ H', Same H H' → Q (.str x) H') ∨
   (x ∈ numX ∧ ∃ dd fs v, d = some dd ∧ H dd = some (.xd fs) ∧ fs.lookup ("number" : Str) = some v ∧ ∀ p H', H p = none → Same H H' → H' p = some (.tup [.str x, v]) → Q (.ref p) H') ∨
   (x = "BadRow" ∧ ∃ dd fs v u, d = some dd ∧ H dd = some (.xd fs) ∧ fs.lookup ("row" : Str) = some v ∧ fs.lookup ("why" : Str) = some u ∧ ∀ p H', H p = none → Same H H' → H' p = some (.tup [.str x, v, u]) → Q (.ref p) H'))
def TKind (K : PySem.W.Frag) : (XK → Hp → VK → Prop) → Hp → VK → Prop := fun tl H Q => tl (KindE K Q) H Q
def kindsL (x : Str) : List V := allX.map fun y => V.bl (decide (x = y))
theorem kinds_count : ∀ x ∈ allX, (kindsL x).countP (fun z => eqV z (.bl true)) = 1 := by decide +kernel
theorem kinds_at : ∀ x ∈ allX, ∃ j, j < 9 ∧ (kindsL x)[j]? = some (.bl true) ∧ (allX.map V.str)[j]? = some (.str x) ∧ (∀ m, m < j → (kindsL x)[m]? = some (.bl false)) ∧ (x ∈ plainX → j < 5) ∧ (x ∈ numX → 5 ≤ j ∧ j < 8) ∧ (x = "BadRow" → j = 8) := by decide +kernel
theorem kinds_flat : ∀ x ∈ allX, (kindsL x).all flatV = true := by decide +kernel
end Bm
namespace Bm
open PySem PySem.Spec PyProof.Rows L2
theorem pe_bmK {X : Cx} (K : PySem.W.Frag) {T : String} {name : Str} {id : String} {r : V → List V → Hp → VK → Prop} {o e : Expr} {es : List Expr} {to : TE} {t : TA} {apos cpos : Pos} (pa : PlainAttrs T) (slot : Slot T name id) (hty : typeOf (.builtin id) = pure (.type "method_descriptor")) (hm : MtR X id r) (ho : PE X o to) (ha : PA X (e :: es) t) (hK : X.K = K := by rfl)
    (hbase : attributeBase o name X.env (eval o X.env) = eval o X.env := by rfl)
    (hfew : ((backTo cpos (starEach (e :: es) X.env)).all (fun x => !x.1) && (backToKw cpos (keywordEach [] X.env)).all (fun x => x.1.isSome)
      && decide ((e :: es).length + ([] : List Keyword).length + (if ([] : List Keyword).isEmpty then 0 else 1) < 30)) = true := by rfl)
    (hline : (apos.endLine == cpos.line) = true := by rfl) (hs : starEach (e :: es) X.env = (false, eval e X.env) :: starEach es X.env := by rfl) (hplain : (backTo cpos (starEach es X.env)).any (·.1) = false := by rfl) :
    PE X (.Call (.Attribute o name apos) (e :: es) [] cpos) (tBM K T r to t) := by
  subst hK
  exact pe_bm pa slot hty hm ho ha hbase hfew hline hs hplain
end Bm
namespace Bm
open PySem PySem.Spec PyProof.Rows L2
/-- what is raised is raised where there are so many slots -/
theorem takes_len {X : Cx} {W : WX} {n : Nat} (t : Takes X W) (hn : X.N.length = n) : Takes X (fun cls d σ H => σ.length = n → W cls d σ H) := fun u s' z => by
  obtain ⟨a, B, sI, pins, σ, H, cls, d, e, I, nb, up, sky, na, os, ag, w⟩ := z
  exact t u s' ⟨a, B, sI, pins, σ, H, cls, d, e, I, nb, up, sky, na, os, ag, w (I.len.trans hn)⟩
end Bm
namespace Bm
open PySem L2
def kb (x : Str) (ys : List Str) : List V := ys.map fun y => V.bl (decide (x = y))
end Bm
namespace Bm
open PySem PySem.Spec PyProof.Rows L2
def spNumI (K : PySem.W.Frag) : Sp := fun vs H Q _ => ∃ (a C : Addr) (v : V), vs = [.ref a, v] ∧ OexC K C ∧ PySem.W.findIn K (.ref C) "number" = some none ∧ H a = some (exo a C none) ∧ ∀ dx, H dx = none → dx ≠ a → Q .non (upd (upd H dx (exd dx [("number", v)])) a (exo a C (some dx)))
/-- what a raise of it asks -/
theorem num_ok {K : PySem.W.Frag} {H : Hp} {C : Addr} {v : V} {Q : XK} (O : OexC K C) (hno : PySem.W.findIn K (.ref C) "number" = some none) (q : ∀ d, H d = none → Q (.ref C) (some d) (upd H d (.xd [("number", v)]))) :
    ([v] : List V).length ≤ 1000 ∧ ∀ a, H a = none → spNumI K (.ref a :: ([v] ++ [])) (upd H a (exo a C none)) (fun v' H2 => v' = .non ∧ ∃ (d : Addr) (fs : List (Str × V)), H2 a = some (exo a C (some d)) ∧ H2 d = some (exd d fs) ∧ H d = none ∧ Q (.ref C) (some d) (upd (del H2 a) d (.xd fs))) (fun _ _ _ => False) := by
  refine ⟨by show 1 ≤ 1000; decide, fun a na => ⟨a, C, v, rfl, O, hno, upd_same, fun dx ndx nea => ⟨rfl, dx, [("number", v)], upd_same, ?_, ?_, ?_⟩⟩⟩
  · rw [upd_ne nea, upd_same]
  · rw [upd_ne nea] at ndx
    exact ndx
  · rw [upd_ne nea] at ndx
    have e : upd (del (upd (upd (upd H a (exo a C none)) dx (exd dx [("number", v)])) a (exo a C (some dx))) a) dx (.xd [("number", v)]) = upd H dx (.xd [("number", v)]) := by
      funext b
      by_cases hb : b = dx
      · rw [hb, upd_same, upd_same]
      · rw [upd_ne hb, upd_ne hb]
        by_cases ha : b = a
        · rw [ha, del_same, na]
        · rw [del_ne ha, upd_ne ha, upd_ne hb, upd_ne ha]
    rw [e]
    exact q dx ndx
/-- raised: the error x with the number v, all else kept -/
def ExN (K : PySem.W.Frag) (x : Str) (v : V) (H : Hp) (E : XK) : Prop := ∀ d H', H d = none → Same H H' → H' d = some (.xd [("number", v)]) → E (.ref (He.ga K x)) (some d) H'
theorem ExN.go {K : PySem.W.Frag} {x : Str} {v : V} {H H1 : Hp} {E : XK} (e : ExN K x v H E) (s : Same H H1) {d : Addr} (h : H1 d = none) : E (.ref (He.ga K x)) (some d) (upd H1 d (.xd [("number", v)])) :=
  e d _ (s.free h) (s.trans (Same.new h)) upd_same
def firstBad (m : Nat) : List V → Nat → Option Nat
  | [], _ => none
  | x :: r, i => if (decide (i = m) || !isWhole x 0 65535) = true then some i else firstBad m r (i + 1)
/-- need_words, need_block's loop: m the most -/
def spNeed (K : PySem.W.Frag) (m : Nat) : Sp := fun vs H Q E => ∃ (a : Addr) (xs : List V), vs = [.ref a] ∧ SqA K H a xs ∧ (∀ x ∈ xs, ∃ n, Kd K H x n) ∧
  (firstBad m xs 0 = none → ∀ H', Same H H' → Q .non H') ∧ (∀ i, firstBad m xs 0 = some i → ExN K "BadImage" (.int (i : Nat)) H E)
end Bm
namespace Bm
open PySem PySem.Spec PyProof.Rows L2
theorem pe_gc {X : Cx} {x : Str} {v : V} {pos : Pos} (hg : Gl X x) (h : ∃ u, X.mg x = some u ∧ RelV v u) (hd : (x == ("__debug__" : Str)) = false := by decide) : PE X (.Name x pos) (tC v) := by
  obtain ⟨u, hm, r⟩ := h
  exact pe_glob hg hm r hd
end Bm
namespace Bm
open PySem PySem.Spec PyProof.Rows L2
end Bm
set_option autoImplicit false
set_option Elab.async false
set_option linter.all false
set_option maxRecDepth 100000
set_option maxHeartbeats 4000000
namespace Lk26
open PySem PySem.Spec PyProof.Rows L2 Bm
local macro_rules
  | `(tactic| array_get_dec) => `(tactic| first | refine ⟨_, rfl, ?_⟩ | refine ⟨_, _, rfl, rfl, ?_⟩ | refine ⟨rfl, ?_⟩ | refine ⟨_, _, rfl, ?_⟩ | refine ⟨⟨_, rfl⟩, ?_⟩ | refine iteDT (by decide) ?_ | refine iteDF (by decide) ?_ | refine iteBT (by decide) ?_ | refine iteBF (by decide) ?_ | refine ⟨_, _, rfl, rfl, ⟨by decide, by decide⟩, ?_⟩)
local macro_rules
  | `(tactic| and_intros) => `(tactic| (repeat (array_get_dec)))
section
variable {P : Program} {w : World} {K : PySem.W.Frag} {mg : Str → Option Value} {base : Heap}
theorem sc_law_same : FnScope ["_law_found", "_law_due_here", "_law_alike", "_law_k"] ["_law_found", "_law_due_here"] (defScope s_law_same) := ⟨rfl, rfl, rfl, by decide +kernel, rfl, by decide +kernel, by decide +kernel⟩
structure CSame (P : Program) (w : World) (K : PySem.W.Frag) (mg : Str → Option Value) (base : Heap) (n : Nat) (sp : Sp) : Prop where
  law_same : Fn P w K mg base CX0 n "_law_same" sp []
theorem step_law_same (T : Txt K mg) {n : Nat} {sp : Sp} (C : CSame P w K mg base n sp) (hsp : ∀ m, n = m + 1 → sp = spSame K m) {f : Addr} {fd : FuncData} (F : FunD K "_law_same" "_law_same" (defArgs s_law_same) (defBody s_law_same) (defScope s_law_same) [] [] f fd) : FnOk P w K mg base CX0 (n + 1) f fd ["_law_found", "_law_due_here"] (spSame K n) := by
  refine F.ok sc_law_same (fun vs H Q E h => ?_) (fun cdv A outer s H vs Q E hr h => ?_)
  · obtain ⟨v, u, d, rfl, _⟩ := h
    rfl
  · obtain ⟨v, u, d, rfl, hv, hu, hd, q⟩ := h
    refine ⟨_, PSs.nox (pss_cons (ps_if (pt_val (pe_callB call_isiT rfl T.b_isinstance (by decide +kernel) (pa_cons (pv 1) (pa_cons (pe_tup (pa_cons (pe_bltn (v := .ty "tuple") rfl T.b_tuple (by decide +kernel) rfl) (pa_cons (pe_bltn (v := .ty "list") rfl T.b_list (by decide +kernel) rfl) pa_nil))) pa_nil)))) (pss_cons (ps_if (PW.pt (pw_or (pt_not (pt_val (pe_callB call_isiT rfl T.b_isinstance (by decide +kernel) (pa_cons (pv 0) (pa_cons (pe_tup (pa_cons (pe_bltn (v := .ty "tuple") rfl T.b_tuple (by decide +kernel) rfl) (pa_cons (pe_bltn (v := .ty "list") rfl T.b_list (by decide +kernel) rfl) pa_nil))) pa_nil))))) (pw_or1 (pt_cmpR op_ne (pe_callB call_isi rfl T.b_isinstance (by decide +kernel) (pa_cons (pv 0) (pa_cons (pe_bltn (v := .ty "list") rfl T.b_list (by decide +kernel) rfl) pa_nil))) (pe_callB call_isi rfl T.b_isinstance (by decide +kernel) (pa_cons (pv 1) (pa_cons (pe_bltn (v := .ty "list") rfl T.b_list (by decide +kernel) rfl) pa_nil))) (nomark _))))) (pss_one (ps_ret pe_bl)) (pss_nil))
  (pss_cons (ps_if (pt_cmpR op_ne (pe_callB call_len_seq rfl T.b_len (by decide +kernel) (pa_cons (pv 0) pa_nil)) (pe_callB call_len_seq rfl T.b_len (by decide +kernel) (pa_cons (pv 1) pa_nil)) (nomark _)) (pss_one (ps_ret pe_bl)) (pss_nil))
  (pss_one (ps_ret (pe_cmpR (op_eqD hr.units) (pe_lc (own := [("_law_k", 3)]) rfl sc_law_same.nd  (pi_range1 rfl T.b_range (pa_cons (pe_callB call_len_seq rfl T.b_len (by decide +kernel) (pa_cons (pv 1) pa_nil)) pa_nil)) (blkOk_by (own := [("_law_k", 3)]) (N := ["_law_found", "_law_due_here", "_law_alike", "_law_k"]) (sc := defScope s_law_same) (by decide +kernel)) (fun _ _ _ _ _ => (pg_name (i := 3) sc_law_same.nd rfl (Or.inl rfl))) (fun _ _ _ _ _ => pts_one (pt_not (pt_val (pe_f C.law_same hr (Nat.le_refl _) pass0 (pa_cons (pe_ix (r := rIx K) ix_seq (pv 0) (pv 3) (fun _ _ => rfl)) (pa_cons (pe_ix (r := rIx K) ix_seq (pv 1) (pv 3) (fun _ _ => rfl)) pa_nil)))))) (fun _ _ _ _ _ => (pv 3))) (pe_lst pa_nil) (nomark _)))))) (pss_nil))
  (pss_cons (ps_set (i := 2) sc_law_same.nd rfl (Or.inl rfl) (pe_and (pe_cmpR op_eq (pe_callB call_isi rfl T.b_isinstance (by decide +kernel) (pa_cons (pv 0) (pa_cons (pe_bltn (v := .ty "bool") rfl T.b_bool (by decide +kernel) rfl) pa_nil))) (pe_callB call_isi rfl T.b_isinstance (by decide +kernel) (pa_cons (pv 1) (pa_cons (pe_bltn (v := .ty "bool") rfl T.b_bool (by decide +kernel) rfl) pa_nil))) (nomark _)) (pe_one (pe_cmpR op_eq (pe_callB call_isi rfl T.b_isinstance (by decide +kernel) (pa_cons (pv 0) (pa_cons (pe_bltn (v := .ty "int") rfl T.b_int (by decide +kernel) rfl) pa_nil))) (pe_callB call_isi rfl T.b_isinstance (by decide +kernel) (pa_cons (pv 1) (pa_cons (pe_bltn (v := .ty "int") rfl T.b_int (by decide +kernel) rfl) pa_nil))) (nomark _)))))
  (pss_one (ps_ret (pe_and (pv 2) (pe_one (pe_cmpR op_eq (pv 0) (pv 1) (nomark _)))))))), ?_⟩
    have kv := hv.kd
    have ku := hu.kd
    -- isinstance(due, (tuple, list))
    refine ⟨_, rfl, (show 2 ≤ sizeLine by decide), fun p np => ?_⟩
    have s1 : Same H (upd H p (.tup [.ty "tuple", .ty "list"])) := Same.new np
    refine ⟨_, _, [.ty "tuple", .ty "list"], _, _, _, rfl, upd_same, .cons (.ty "tuple") (.cons (.ty "list") .nil), (ku.same s1).ty, (ku.same s1).any2 (by decide) (by decide), _, rfl, ?_⟩
    rcases dp_seq hu with ⟨ds, eds, hb, b, ys, rfl, hB, hys⟩ | ⟨hb, hfl⟩
    · refine iteBT hb ?_
      obtain ⟨ds', eds', _, a, xs, rfl, hA, hxs⟩ | ⟨hb', _⟩ := dp_seq hv
      rotate_left
      · rw [hb] at hb'
        cases hb'
      rw [eds] at eds'
      cases eds'
      obtain ⟨hdl, m, rfl, hdep⟩ := dep_seq hd eds
      obtain rfl := hsp m rfl
      have hlen : xs.length = ys.length := hxs.length.trans hys.length.symm
      -- not isinstance(found, (tuple, list)) or ..
      refine ⟨_, rfl, (show 2 ≤ sizeLine by decide), fun p2 np2 => ?_⟩
      have s2 : Same H (upd (upd H p (.tup [.ty "tuple", .ty "list"])) p2 (.tup [.ty "tuple", .ty "list"])) := s1.trans (Same.new np2)
      refine ⟨_, _, [.ty "tuple", .ty "list"], _, _, _, rfl, upd_same, .cons (.ty "tuple") (.cons (.ty "list") .nil), (kv.same s2).ty, (kv.same s2).any2 (by decide) (by decide), _, rfl, ?_⟩
      refine iteBF (by rw [hb]; rfl) ?_
      generalize upd (upd H p (.tup [.ty "tuple", .ty "list"])) p2 (.tup [.ty "tuple", .ty "list"]) = H2 at s2
      refine ⟨_, rfl, _, _, _, _, _, rfl, .ty "list", (kv.same s2).ty, (kv.same s2).kit (by decide), ?_⟩
      refine ⟨_, rfl, _, _, _, _, _, rfl, .ty "list", (ku.same s2).ty, (ku.same s2).kit (by decide), rfl, _, rfl, iteNS rfl ?_⟩
      refine ⟨_, rfl, a, xs, rfl, hA.same s2, _, rfl, b, ys, rfl, hB.same s2, rfl, _, rfl, iteNS (by rw [hlen]) ?_⟩
      have hyl : ys.length ≤ 100000 := by
        rw [hys.length]
        exact hdl
      refine ⟨_, rfl, b, ys, rfl, hB.same s2, _, rfl, by omega, by omega, fun D nD => ?_⟩
      refine lc_range (lo := 0) (n := ys.length) (fun i H' => Same H2 H' ∧ H' D = some (.lst [])) ⟨Same.new nD, upd_same⟩ ?_ ?_
      · rintro i H' hi ⟨s3, hD⟩
        have hix : i < xs.length := by omega
        have hid : i < ds.length := by rw [← hxs.length]; exact hix
        obtain ⟨x, ex, hx⟩ := hxs.get (List.getElem?_eq_getElem hid)
        obtain ⟨y, ey, hy⟩ := hys.get (List.getElem?_eq_getElem hid)
        refine ⟨rfl, ?_⟩
        refine ⟨_, rfl, _, rfl, rIx_ok (hA.same (s2.trans s3)) (at0 ex) ?_⟩
        refine ⟨_, rfl, _, rfl, rIx_ok (hB.same (s2.trans s3)) (at0 ey) ?_⟩
        refine ⟨x, y, _, rfl, hx.same (s2.trans s3), hy.same (s2.trans s3), hdep _ (List.getElem_mem hid), fun H5 s5 => ⟨_, rfl, iteF ⟨s3.trans s5, s5 _ _ hD⟩⟩⟩
      · rintro H' ⟨s3, hD⟩
        refine ⟨Nat.zero_le _, fun l hl => ⟨.list [], .list [], .lst (SqL.of ((Same.new hl) _ _ hD)) .nil, .lst (SqL.of upd_same) .nil, rfl, rfl, ?_⟩⟩
        exact q _ ((s2.trans s3).trans (Same.new hl))
    · refine iteBF hb ?_
      obtain ⟨rfl, hsc⟩ := hv.flat_eq hfl hu
      generalize upd H p (.tup [.ty "tuple", .ty "list"]) = H1 at s1
      refine ⟨_, rfl, _, _, _, _, _, rfl, .ty "bool", (kv.same s1).ty, (kv.same s1).kit (by decide), ?_⟩
      refine ⟨_, rfl, _, _, _, _, _, rfl, .ty "bool", (kv.same s1).ty, (kv.same s1).kit (by decide), rfl, _, rfl, iteDT rfl ?_⟩
      refine ⟨_, rfl, _, _, _, _, _, rfl, .ty "int", (kv.same s1).ty, (kv.same s1).kit (by decide), ?_⟩
      refine ⟨_, rfl, _, _, _, _, _, rfl, .ty "int", (kv.same s1).ty, (kv.same s1).kit (by decide), rfl, ?_⟩
      refine ⟨_, rfl, _, rfl, iteDT rfl ⟨_, rfl, _, rfl, hsc, ?_⟩⟩
      show Q (.bl (decide (v = v))) H1
      rw [decide_eq_true rfl]
      exact q _ s1
theorem ok_law_same (T : Txt K mg) {f : Addr} {fd : FuncData} (F : FunD K "_law_same" "_law_same" (defArgs s_law_same) (defBody s_law_same) (defScope s_law_same) [] [] f fd) (g : mg "_law_same" = some (.ref f)) : ∀ n, FnOk P w K mg base CX0 (n + 1) f fd ["_law_found", "_law_due_here"] (spSame K n)
  | 0 => step_law_same T ⟨.of F g (bnd0 (ps := ["_law_found", "_law_due_here"]) F fun _ _ _ _ _ _ us hl => match us, hl with | [_, _], _ => rfl) fn_nothing⟩ (fun m e => by cases e) F
  | n + 1 => step_law_same T ⟨.of F g (bnd0 F fun _ _ _ _ _ _ us hl => match us, hl with | [_, _], _ => rfl) (ok_law_same T F g n)⟩ (fun m e => by cases e; rfl) F
theorem fn_law_same (T : Txt K mg) (Df : Defs K) (n : Nat) : Fn P w K mg base CX0 (n + 1) "_law_same" (spSame K n) [] := by
  obtain ⟨fd, F⟩ := Df.law_same
  exact .of F T.g_law_same (bnd0 F fun _ _ _ _ _ _ us hl => match us, hl with | [_, _], _ => rfl) (ok_law_same T F T.g_law_same n)
end
end Lk26
set_option autoImplicit false
set_option Elab.async false
set_option linter.all false
set_option maxRecDepth 100000
set_option maxHeartbeats 4000000
namespace Lk26
open PySem PySem.Spec PyProof.Rows L2 Bm
local macro_rules
  | `(tactic| array_get_dec) => `(tactic| first | refine ⟨_, rfl, ?_⟩ | refine ⟨_, _, rfl, rfl, ?_⟩ | refine ⟨rfl, ?_⟩ | refine ⟨_, _, rfl, ?_⟩ | refine ⟨⟨_, rfl⟩, ?_⟩ | refine iteDT (by decide) ?_ | refine iteDF (by decide) ?_ | refine iteBT (by decide) ?_ | refine iteBF (by decide) ?_ | refine ⟨_, _, rfl, rfl, ⟨by decide, by decide⟩, ?_⟩)
local macro_rules
  | `(tactic| and_intros) => `(tactic| (repeat (array_get_dec)))
section
variable {P : Program} {w : World} {K : PySem.W.Frag} {mg : Str → Option Value} {base : Heap}
theorem sc_Numbered_init : FnScope ["self", "number"] ["self", "number"] (defScope s_Numbered_init) := ⟨rfl, rfl, rfl, by decide +kernel, rfl, by decide +kernel, by decide +kernel⟩
theorem ok_num_init (T : Txt K mg) {f : Addr} {fd : FuncData} (F : FunD K "__init__" "Numbered.__init__" (defArgs s_Numbered_init) (defBody s_Numbered_init) (defScope s_Numbered_init) [] [] f fd) : FnOk P w K mg base CX0 1 f fd ["self", "number"] (spNumI K) := by
  refine F.ok sc_Numbered_init (fun vs H Q E h => ?_) (fun cdv A outer s H vs Q E hr h => ?_)
  · obtain ⟨a, C, v, rfl, _⟩ := h
    rfl
  · obtain ⟨a, C, v, rfl, O, hno, ha, q⟩ := h
    refine ⟨_, PSs.nox (pss_cons (ps_expr (pe_minit rfl T.c_MillError (T.y.more (by simp)).2.1 (T.y.more (by simp)).2.2.1 (T.y.more (by simp)).2.2.2 (pa_cons (pv 0) (pa_cons pe_str pa_nil)))) (pss_one (ps_ost (pv 0) (pv 1)))), ?_⟩
    refine ⟨_, rfl, a, C, _, rfl, (show 1 ≤ 1000 by decide), O, ha, _, rfl, _, rfl, a, C, rfl, O, hno, .inl ⟨ha, fun dx ndx nea => q dx ndx nea⟩⟩
structure NumI (P : Program) (w : World) (K : PySem.W.Frag) (mg : Str → Option Value) (base : Heap) : Prop where
  ex : ∃ fd, FnOk P w K mg base CX0 1 (He.ma K (He.ga K "Numbered") "__init__") fd ["self", "number"] (spNumI K) ∧ L2.Binds K fd ["self", "number"] []
theorem num_I (T : Txt K mg) (Df : Defs K) : NumI P w K mg base := by
  obtain ⟨fd, F⟩ := Df.Numbered_init
  exact ⟨fd, ok_num_init T F, F.bindsN fun _ _ _ _ _ _ us hl => match us, hl with | [_, _], _ => rfl⟩
/-- raise x(e), x one of BadImage, BadGiven, BadList -/
theorem pmk_num {X : Cx} {j : Nat} {e : Expr} {ta : TA} {p pos : Pos} (T : Txt X.K X.mg) (x : Str) (hx : x ∈ (["BadImage", "BadGiven", "BadList"] : List Str)) (hm : X.mg x = some (.ref (He.ga X.K x))) (N : NumI X.prog X.w X.K X.mg X.base) (hr : Room j X.A) (hj : 2 ≤ j) (ha : PA X [e] ta) (hg : Gl X x := by rfl) (hdb : (x == ("__debug__" : Str)) = false := by decide)
    (he : starEach [e] X.env = (false, eval e X.env) :: starEach [] X.env := by rfl) (hpl : (backTo pos (starEach [] X.env)).any (·.1) = false := by rfl) :
    PMk X (.Call (.Name x p) [e] [] pos) (tMkO (He.ga X.K x) (spNumI X.K) [] ta) := by
  obtain ⟨fd, F, b⟩ := N.ex
  obtain ⟨O, iC, _, _⟩ := T.y.num x hx
  exact pmk_oex O iC (T.y.more (by simp)).1 F (hr.mono hj) b .nil pass0 hg hm ha hdb he hpl
end
end Lk26
set_option Elab.async false
set_option linter.all false
set_option maxRecDepth 100000
set_option maxHeartbeats 4000000
set_option autoImplicit false
namespace Fv
open PySem PySem.Spec PyProof.Rows L2 Bm
def tIfT (t ta tb : TT) : TT := fun σ H Q => t σ H fun c H1 => if c = true then ta σ H1 Q else tb σ H1 Q
def rSlAny (K : PySem.W.Frag) : V → Option Int → Option Int → Hp → VK → Prop := fun x lo hi H Q => rSlL K x lo hi H Q ∨ rSlA K x lo hi H Q
theorem sl_any {X : Cx} : SlR X (rSlAny X.K) := sl_list.or sl_tupA
theorem okC {P : Program} {w : World} {K : PySem.W.Frag} {mg : Str → Option Value} {base : Heap} {CX : CXT} {x qual : Str} {params : Arguments} {body : List Stmt} {scope : Scope} {dvs : List V} {kws : List (Str × V)} {fd : FuncData} {N ps : List Str} {k : Nat} {sp : Sp} (p : He.Defn)
    (F : FunD K x qual params body scope dvs kws (He.fAd K p) fd) (S : FnScope N ps scope) (len : ∀ vs H Q E, sp vs H Q E → vs.length = ps.length)
    (hbody : ∀ (A : Around) (outer : List Env) (s : Shared) (H : Hp) (vs : List V) (Q : VK) (E : XK), Room k (A.deeper (envOfC qual scope s.heap.objs.size (He.fAd K p) (.ref (He.codeOf K p)))) → sp vs H Q E →
      ∃ t, PSs (cxOf CX P w K mg base N qual scope (He.fAd K p) (.ref (He.codeOf K p)) A outer s H E) body t ∧ t { nx := fun _ H' => Q .non H', rt := Q } (start N vs) H) : FnOk P w K mg base CX (k + 1) (He.fAd K p) fd ps sp := by
  obtain ⟨oc, od, dV, kV, doc, pm, an, cdv, ct, osl, rfl, lk, hcd, _, _⟩ := F.ex
  obtain ⟨c, rfl⟩ := He.codeIn_ref hcd
  have e : He.codeOf K p = c := He.codeOf_eq lk rfl
  rw [e] at hbody
  exact fn_of lk hcd S len hbody
end Fv
set_option Elab.async false
set_option linter.all false
set_option maxRecDepth 100000
set_option maxHeartbeats 4000000
set_option autoImplicit false
namespace Fv
open PySem PySem.Spec PyProof.Rows L2 Bm
def nHash : Option Int → Int
  | none => reduceHash 0xFCA86420
  | some i => hashInt i
abbrev nKey (k : Option Int) : Option Key := k.map Sum.inl
def NoneD (p : Addr) (ks : List (Option Int)) : Heap → Prop := fun h => (p == sysModules) = false ∧ ∃ o es ep, h.get? p = some o ∧ o.ExactDict ∧ o.data = .dict es ep ∧ (∀ e ∈ es, ∃ k : Option Int, nkIs (nKey k) e.key = true ∧ e.hash = nHash k) ∧ ∀ k : Option Int, (findBy nkIs es (nKey k)).isSome = decide (k ∈ ks)
section
variable {P : Program} {w : World} {h : Heap} {p : Addr} {ks : List (Option Int)}
theorem NoneD.map (n : NoneD p ks h) : (p == sysModules) = false ∧ ∃ f, h.MapOf (noneKind P w) p f ∧ ∀ k : Option Int, (f (nKey k)).isSome = decide (k ∈ ks) := by
  obtain ⟨hm, o, es, ep, h1, h2, h3, h4, h5⟩ := n
  refine ⟨hm, fun k => findBy nkIs es k, ⟨o, es, ep, h1, h2, h3, fun e m => ?_, fun k => rfl⟩, h5⟩
  obtain ⟨k, a, b⟩ := h4 e m
  refine ⟨nKey k, a, b.trans ?_⟩
  cases k <;> rfl
theorem NoneD.stays {h1 h2 : Heap} (n : NoneD p ks h1) (k : ∀ o, h1.get? p = some o → h2.get? p = some o) : NoneD p ks h2 := by
  obtain ⟨hm, o, es, ep, a1, a2, a3, a4, a5⟩ := n
  exact ⟨hm, o, es, ep, k _ a1, a2, a3, a4, a5⟩
theorem NoneD.there (n : NoneD p ks h) : ∃ o, h.get? p = some o := by
  obtain ⟨_, o, _, _, a1, _⟩ := n
  exact ⟨o, a1⟩
theorem pairs_mem {K : Type} [DecidableEq K] {knd : KeyKind P w K} {es : List DictEntry} {kvs : List (K × Value)} (pp : Pairs knd es kvs) : ∀ e ∈ es, ∃ kv ∈ kvs, knd.is kv.1 e.key = true := by
  induction pp with
  | nil => exact fun e m => nomatch m
  | cons a b t ih =>
    intro e m
    rcases List.mem_cons.mp m with rfl | m
    · exact ⟨_, List.mem_cons_self, a⟩
    · obtain ⟨kv, m', q⟩ := ih e m
      exact ⟨kv, List.mem_cons_of_mem _ m', q⟩
theorem mem_merged {K : Type} [DecidableEq K] (prs : List (K × Value)) (k : K) : k ∈ (merged [] prs).map (·.1) ↔ k ∈ prs.map (·.1) := by
  rw [← valueAt_isSome, valueAt_merged]
  have : (valueAt prs.reverse k).isSome = true ↔ k ∈ prs.map (·.1) := by
    rw [valueAt_isSome]
    simp
  rw [← this]
  cases valueAt prs.reverse k with
  | some v => simp
  | none => simp [valueAt_nil]
theorem NoneD.of {prs : List (Option Key × Value)} (hm : (p == sysModules) = false) (d : h.DictOf (noneKind P w) p (merged [] prs)) (hk : prs.map (·.1) = ks.map nKey) : NoneD p ks h := by
  obtain ⟨f, hf⟩ : ∃ f, h.MapOf (noneKind P w) p f ∧ f = valueAt (merged [] prs) := ⟨_, d.mapOf, rfl⟩
  obtain ⟨o, es, ep, h1, h2, h3, h4, h5, h6⟩ := d
  refine ⟨hm, o, es, ep, h1, h2, h3, fun e m => ?_, fun k => ?_⟩
  · obtain ⟨kv, mk, q⟩ := pairs_mem h5 e (Array.mem_toList_iff.mpr m)
    obtain ⟨k, hk1, hk2⟩ := h4 e m
    have : k = kv.1 := (noneKind P w).inj _ _ _ hk1 q
    subst this
    have mm : kv.1 ∈ (merged [] prs).map (·.1) := List.mem_map_of_mem mk
    rw [mem_merged, hk] at mm
    obtain ⟨j, _, ej⟩ := List.mem_map.mp mm
    rw [← ej] at hk1 hk2
    refine ⟨j, hk1, hk2.trans ?_⟩
    cases j <;> rfl
  · obtain ⟨o', es', ep', g1, g2, g3, g4, g5⟩ := hf.1
    rw [h1] at g1
    cases g1
    rw [h3] at g3
    cases g3
    have e5 : findBy nkIs es (nKey k) = valueAt (merged [] prs) (nKey k) := (g5 (nKey k)).trans (by rw [hf.2])
    rw [e5]
    have : (valueAt (merged [] prs) (nKey k)).isSome = true ↔ k ∈ ks := by
      rw [valueAt_isSome, mem_merged, hk, List.mem_map]
      constructor
      · rintro ⟨j, mj, ej⟩
        have : j = k := by
          cases j <;> cases k <;> simp [nKey] at ej <;> first | rfl | rw [ej]
        exact this ▸ mj
      · exact fun m => ⟨k, m, rfl⟩
    by_cases c : k ∈ ks
    · rw [this.mpr c, decide_eq_true c]
    · rw [decide_eq_false c]
      cases q : (valueAt (merged [] prs) (nKey k)).isSome with
      | false => rfl
      | true => exact absurd (this.mp q) c
end
end Fv
set_option Elab.async false
set_option linter.all false
set_option maxRecDepth 100000
set_option maxHeartbeats 4000000
set_option autoImplicit false
namespace Fv
open PySem PySem.Spec PyProof.Rows L2 Bm
def kN : V → NestedKey
  | .bl b => .num (if b = true then 1 else 0)
  | .int i => .num i
  | .str x => .text x
  | _ => .none
def flatV : V → Bool
  | .non => true
  | .bl _ => true
  | .int _ => true
  | .str _ => true
  | _ => false
def TupD (w : World) (p : Addr) (xs : List (NestedKey × Addr)) : Heap → Prop := fun h => (p == sysModules) = false ∧ ∃ (ys : List (NestedKey × Addr × Value)) (o : Obj) (es : Array DictEntry) (ep : Nat), ys.map (fun y => (y.1, y.2.1)) = xs ∧ (ys.map (·.1)).Nodup ∧ h.get? p = some o ∧ o.ExactDict ∧ o.data = .dict es ep ∧ es.toList = ys.map fun y => (⟨y.1.hash w, .ref y.2.1, y.2.2⟩ : DictEntry)
def KeyAt (K : PySem.W.Frag) (H : Hp) (x : NestedKey × Addr) : Prop := ∃ vs, SqT K H x.2 vs ∧ (∀ v ∈ vs, flatV v = true) ∧ x.1 = .tup (vs.map kN)
def putNK (xs : List (NestedKey × Addr)) (k : NestedKey) (a : Addr) : List (NestedKey × Addr) := if k ∈ xs.map (·.1) then xs else xs ++ [(k, a)]
section
variable {h : Heap}
theorem nest_of {v : V} {u : Value} (r : RelV v u) (f : flatV v = true) : NestedIs h (kN v) u := by
  cases v with
  | non =>
    obtain rfl : u = Value.none := r
    exact .none
  | bl b =>
    obtain rfl : u = Value.bool b := r
    exact .bool rfl
  | int i =>
    obtain ⟨t, rfl⟩ : ∃ t, u = Value.int i t := r
    exact .int i t
  | str x =>
    obtain ⟨t, rfl⟩ : ∃ t, u = Value.str x t := r
    exact .text x t
  | _ => cases f
theorem nests_of {vs : List V} {us : List Value} (r : Vals vs us) (f : ∀ v ∈ vs, flatV v = true) : NestedAll h (vs.map kN) us := by
  induction r with
  | nil => exact .nil
  | cons a b ih => exact .cons (nest_of a (f _ List.mem_cons_self)) (ih fun v m => f v (List.mem_cons_of_mem _ m))
theorem kN_depth (v : V) : (kN v).depth = 0 := by cases v <;> rfl
theorem kNs_depth : ∀ vs : List V, NestedKey.depthAll (vs.map kN) = 0
  | [] => rfl
  | v :: vs => by rw [List.map_cons, NestedKey.depthAll, kN_depth, kNs_depth vs]; rfl
theorem KeyAt.same {K : PySem.W.Frag} {G H : Hp} {x : NestedKey × Addr} (k : KeyAt K G x) (s : Same G H) : KeyAt K H x := by
  obtain ⟨vs, h1, h2, h3⟩ := k
  exact ⟨vs, sqT_at (fun o q => s _ o q) h1, h2, h3⟩
theorem KeyAt.is {X : Cx} {pins : List (Addr × Obj)} {σ : L2.St} {H : Hp} {s : Shared} (I : Inv X pins σ H s) {x : NestedKey × Addr} (k : KeyAt X.K H x) : (nestedKind X.prog X.w).is s.heap x.1 x.2 := by
  obtain ⟨vs, h1, h2, h3⟩ := k
  obtain ⟨its, rv, ⟨o, g1, g2, n, g3⟩, _⟩ := I.tuple h1
  rw [h3]
  exact ⟨.tup g1 g2 g3 (by simpa using nests_of rv h2), by rw [NestedKey.depth, kNs_depth]; decide⟩
theorem TupD.dict {P : Program} {w : World} {p : Addr} {xs : List (NestedKey × Addr)} (n : TupD w p xs h) (k : ∀ x ∈ xs, (nestedKind P w).is h x.1 x.2) : (p == sysModules) = false ∧ ∃ ys, ys.map (fun y => (y.1, y.2.1)) = xs ∧ h.DictOfH (nestedKind P w) p ys := by
  obtain ⟨hm, ys, o, es, ep, h1, h2, h3, h4, h5, h6⟩ := n
  exact ⟨hm, ys, h1, o, es, ep, h3, h4, h5, h6, fun y m => k _ (by rw [← h1]; exact List.mem_map_of_mem (f := fun y : NestedKey × Addr × Value => (y.1, y.2.1)) m), h2⟩
theorem TupD.of {P : Program} {w : World} {p : Addr} {ys : List (NestedKey × Addr × Value)} (hm : (p == sysModules) = false) (d : h.DictOfH (nestedKind P w) p ys) : TupD w p (ys.map fun y => (y.1, y.2.1)) h := by
  obtain ⟨o, es, ep, h3, h4, h5, h6, _, h2⟩ := d
  exact ⟨hm, ys, o, es, ep, rfl, h2, h3, h4, h5, h6⟩
theorem TupD.stays {w : World} {p : Addr} {xs : List (NestedKey × Addr)} {h1 h2 : Heap} (n : TupD w p xs h1) (k : ∀ o, h1.get? p = some o → h2.get? p = some o) : TupD w p xs h2 := by
  obtain ⟨hm, ys, o, es, ep, a1, a2, a3, a4⟩ := n
  exact ⟨hm, ys, o, es, ep, a1, a2, k _ a3, a4⟩
theorem TupD.there {w : World} {p : Addr} {xs : List (NestedKey × Addr)} (n : TupD w p xs h) : ∃ o, h.get? p = some o := by
  obtain ⟨_, _, o, _, _, _, _, a3, _⟩ := n
  exact ⟨o, a3⟩
end
end Fv
set_option Elab.async false
set_option linter.all false
set_option maxRecDepth 100000
set_option maxHeartbeats 4000000
set_option autoImplicit false
namespace Fv
open PySem PySem.Spec PyProof.Rows L2 Bm
structure FnKey where
  q : Str
  params : Arguments
  body : Expr
  scope : Scope
  cells : List (Str × Addr)
  dflt : Bool
def FnO (p : FnKey) (f c' : Addr) (dV : Value) : Heap → Prop := fun h => ∃ (doc pm ctv : Value), h.get? f = some (PySem.W.kdv_obj "<lambda>" p.q p.params (.expr p.body) p.scope (cloFrom p.cells p.scope.names []) dV doc pm c' ctv)
def DfO (a : Addr) : Heap → Prop := fun h => ∃ dv : Value, h.get? a = some (PySem.W.kdv_tup [dv])
def DfOk (p : FnKey) (G : Hp) (dV : Value) : Prop := if p.dflt then ∃ T0, dV = .ref T0 ∧ G T0 = some (.ext (DfO T0)) else dV = .none
theorem DfOk.same {p : FnKey} {G G' : Hp} {dV : Value} (d : DfOk p G dV) (s : Same G G') : DfOk p G' dV := by
  unfold DfOk at d ⊢
  split
  · rename_i c
    rw [if_pos c] at d
    obtain ⟨T0, e, h⟩ := d
    exact ⟨T0, e, s _ _ h⟩
  · rename_i c
    rw [if_neg c] at d
    exact d
/-- a def within a def: its words -/
structure CloKey where
  st : Stmt
  name : Str
  qual : Str
abbrev CloKey.nf (k : CloKey) (cl : List (Str × Addr)) (c : Addr) : NdefX.NF := NdefX.NF.of k.st k.name k.qual cl c
end Fv
set_option Elab.async false
set_option linter.all false
set_option maxRecDepth 100000
set_option maxHeartbeats 4000000
set_option autoImplicit false
namespace Fv
open PySem PySem.Spec PyProof.Rows L2 Bm
inductive D where
  | non | bl (b : Bool) | int (i : Int) | str (x : Str) | tup (xs : List D) | lst (xs : List D) | scr (xs : List D) | dic (ks : List Key) (ds : List D) | ref (k : Nat) | obj (c : Str) (ns : List Str) (ds : List D) | typ (n : String) | nd (ks : List (Option Int)) | fn (k : Nat) (p : FnKey) | clo (k : CloKey) (ds : List D) | cla (k : CloKey) (a : Addr) (cl : List (Str × Addr)) (c : Addr) (ws : List V) (ds : List D)
inductive Ob where
  | lst (xs : List D) | dic (ks : List Key) (ds : List D) | ins (c : Str) (fs : List (Str × D)) | td (w : World) (ks : List NestedKey)
structure En where
  ρ : List (Option D)
  h : List Ob
inductive Res (α : Type) where
  | ok (a : α) (e : En) | ex (x : Str) (fs : List (Str × D)) (e : En) | stuck
abbrev M (α : Type) := En → Res α
inductive RD (K : PySem.W.Frag) (G : Hp) (ι : List Addr) : D → V → Prop
  | non : RD K G ι .non .non
  | bl (b : Bool) : RD K G ι (.bl b) (.bl b)
  | int (i : Int) : RD K G ι (.int i) (.int i)
  | str (x : Str) : RD K G ι (.str x) (.str x)
  | tup {a : Addr} {vs : List V} {xs : List D} (h : SqT K G a vs) (l : vs.length = xs.length) (e : ∀ (i : Nat) d v, xs[i]? = some d → vs[i]? = some v → RD K G ι d v) : RD K G ι (.tup xs) (.ref a)
  | lst {a : Addr} {vs : List V} {xs : List D} (h : G a = some (.lst vs)) (l : vs.length = xs.length) (e : ∀ (i : Nat) d v, xs[i]? = some d → vs[i]? = some v → RD K G ι d v) : RD K G ι (.lst xs) (.ref a)
  | scr {a : Addr} {vs : List V} {xs : List D} (h : SqL K G a vs) (l : vs.length = xs.length) (e : ∀ (i : Nat) d v, xs[i]? = some d → vs[i]? = some v → RD K G ι d v) : RD K G ι (.scr xs) (.ref a)
  | dic {a : Addr} {kvs : List (Key × V)} {ks : List Key} {ds : List D} (h : G a = some (.dK kvs)) (hk : kvs.map (·.1) = ks) (l : kvs.length = ds.length)
      (e : ∀ (i : Nat) d kv, ds[i]? = some d → kvs[i]? = some kv → RD K G ι d kv.2) : RD K G ι (.dic ks ds) (.ref a)
  | ref {k : Nat} {a : Addr} (h : ι[k]? = some a) : RD K G ι (.ref k) (.ref a)
  | obj {a dx : Addr} {gs : List (Str × V)} {c : Str} {ns : List Str} {ds : List D} (h : G a = some (.ins (He.ga K c) dx gs)) (hk : gs.map (·.1) = ns) (l : gs.length = ds.length)
      (e : ∀ (i : Nat) d g, ds[i]? = some d → gs[i]? = some g → RD K G ι d g.2) : RD K G ι (.obj c ns ds) (.ref a)
  | typ (n : String) : RD K G ι (.typ n) (.ty n)
  | nd {a : Addr} {ks : List (Option Int)} (h : G a = some (.ext (NoneD a ks))) : RD K G ι (.nd ks) (.ref a)
  | fn {a c : Addr} {dV : Value} {k : Nat} {p : FnKey} (h : G a = some (.ext (FnO p a c dV))) (hc : G c = some (LamX.CodeO c p.q)) (hd : DfOk p G dV) : RD K G ι (.fn k p) (.ref a)
  | clo {k : CloKey} {a c : Addr} {cl : List (Str × Addr)} {ws : List V} {ds : List D} (h : G a = some (NdefX.FnO a (k.nf cl c))) (hc : G c = some (LamX.CodeO c k.qual)) (l : ws.length = ds.length) (e : ∀ (i : Nat) d v, ds[i]? = some d → ws[i]? = some v → RD K G ι d v) : RD K G ι (.clo k ds) (.ref a)
  | cla {k : CloKey} {a c : Addr} {cl : List (Str × Addr)} {ws : List V} {ds : List D} (h : G a = some (NdefX.FnO a (k.nf cl c))) (hc : G c = some (LamX.CodeO c k.qual)) (l : ws.length = ds.length) (e : ∀ (i : Nat) d v, ds[i]? = some d → ws[i]? = some v → RD K G ι d v) : RD K G ι (.cla k a cl c ws ds) (.ref a)
def RDs (K : PySem.W.Frag) (G : Hp) (ι : List Addr) (xs : List D) (vs : List V) : Prop := vs.length = xs.length ∧ ∀ (i : Nat) d v, xs[i]? = some d → vs[i]? = some v → RD K G ι d v
/-- more is known -/
structure Up (G : Hp) (ι : List Addr) (G' : Hp) (ι' : List Addr) : Prop where
  g : Same G G'
  i : ι <+: ι'
theorem Up.refl {G : Hp} {ι : List Addr} : Up G ι G ι := ⟨Same.refl _, List.prefix_refl _⟩
theorem Up.trans {G G1 G2 : Hp} {ι ι1 ι2 : List Addr} (a : Up G ι G1 ι1) (b : Up G1 ι1 G2 ι2) : Up G ι G2 ι2 := ⟨a.g.trans b.g, a.i.trans b.i⟩
theorem pre_get {α : Type} {l l' : List α} (p : l <+: l') {i : Nat} {x : α} (h : l[i]? = some x) : l'[i]? = some x := by
  obtain ⟨t, rfl⟩ := p
  have hl : i < l.length := (List.getElem?_eq_some_iff.mp h).1
  rw [List.getElem?_append_left hl]
  exact h
section
variable {K : PySem.W.Frag} {G G' : Hp} {ι ι' : List Addr}
theorem RD.up {d : D} {v : V} (h : RD K G ι d v) (u : Up G ι G' ι') : RD K G' ι' d v := by
  induction h with
  | non => exact .non
  | bl b => exact .bl b
  | int i => exact .int i
  | str x => exact .str x
  | tup h l e ih => exact .tup (sqT_at (fun o q => u.g _ o q) h) l ih
  | lst h l e ih => exact .lst (u.g _ _ h) l ih
  | scr h l e ih => exact .scr (u.g.seq h) l ih
  | dic h hk l e ih => exact .dic (u.g _ _ h) hk l ih
  | ref h => exact .ref (pre_get u.i h)
  | obj h hk l e ih => exact .obj (u.g _ _ h) hk l ih
  | typ n => exact .typ n
  | nd h => exact .nd (u.g _ _ h)
  | fn h hc hd => exact .fn (u.g _ _ h) (u.g _ _ hc) (hd.same u.g)
  | clo h hc l e ih => exact .clo (u.g _ _ h) (u.g _ _ hc) l ih
  | cla h hc l e ih => exact .cla (u.g _ _ h) (u.g _ _ hc) l ih
theorem RDs.up {xs : List D} {vs : List V} (h : RDs K G ι xs vs) (u : Up G ι G' ι') : RDs K G' ι' xs vs := ⟨h.1, fun i d v a b => (h.2 i d v a b).up u⟩
theorem RDs.nil : RDs K G ι [] [] := ⟨rfl, fun i d v a => by simp at a⟩
theorem RDs.cons {d : D} {v : V} {xs : List D} {vs : List V} (h : RD K G ι d v) (t : RDs K G ι xs vs) : RDs K G ι (d :: xs) (v :: vs) := by
  refine ⟨by rw [List.length_cons, List.length_cons, t.1], fun i e u a b => ?_⟩
  cases i with
  | zero =>
    obtain rfl : d = e := by simpa using a
    obtain rfl : v = u := by simpa using b
    exact h
  | succ i => exact t.2 i e u (by simpa using a) (by simpa using b)
theorem RDs.inv_nil {vs : List V} (h : RDs K G ι [] vs) : vs = [] := List.eq_nil_of_length_eq_zero h.1
theorem RDs.inv_cons {d : D} {xs : List D} {vs : List V} (h : RDs K G ι (d :: xs) vs) : ∃ v vs', vs = v :: vs' ∧ RD K G ι d v ∧ RDs K G ι xs vs' := by
  cases vs with
  | nil => cases h.1
  | cons v vs' =>
    refine ⟨v, vs', rfl, h.2 0 d v rfl rfl, ?_, fun i e u a b => h.2 (i + 1) e u (by simpa using a) (by simpa using b)⟩
    have := h.1
    simpa using this
theorem RDs.get {xs : List D} {vs : List V} (h : RDs K G ι xs vs) {i : Nat} {d : D} (a : xs[i]? = some d) : ∃ v, vs[i]? = some v ∧ RD K G ι d v := by
  have hl : i < vs.length := by
    rw [h.1]
    exact (List.getElem?_eq_some_iff.mp a).1
  exact ⟨vs[i], List.getElem?_eq_getElem hl, h.2 i d _ a (List.getElem?_eq_getElem hl)⟩
theorem RDs.append {xs ys : List D} {vs us : List V} (h : RDs K G ι xs vs) (t : RDs K G ι ys us) : RDs K G ι (xs ++ ys) (vs ++ us) := by
  induction xs generalizing vs with
  | nil =>
    rw [h.inv_nil]
    exact t
  | cons d xs ih =>
    obtain ⟨v, vs', rfl, h1, h2⟩ := h.inv_cons
    exact .cons h1 (ih h2)
theorem RDs.one {d : D} {v : V} (h : RD K G ι d v) : RDs K G ι [d] [v] := .cons h .nil
theorem RDs.set {xs : List D} {vs : List V} (h : RDs K G ι xs vs) {i : Nat} {d : D} {v : V} (r : RD K G ι d v) : RDs K G ι (xs.set i d) (vs.set i v) := by
  refine ⟨by rw [List.length_set, List.length_set, h.1], fun j e u a b => ?_⟩
  rw [List.getElem?_set] at a b
  by_cases hij : i = j
  · subst hij
    rw [if_pos rfl] at a b
    split at a
    · split at b
      · cases a
        cases b
        exact r
      · cases b
    · cases a
  · rw [if_neg hij] at a b
    exact h.2 j e u a b
theorem RDs.take {xs : List D} {vs : List V} (h : RDs K G ι xs vs) (n : Nat) : RDs K G ι (xs.take n) (vs.take n) := by
  refine ⟨by rw [List.length_take, List.length_take, h.1], fun j e u a b => ?_⟩
  rw [List.getElem?_take] at a b
  split at a
  · rename_i hj
    rw [if_pos hj] at b
    exact h.2 j e u a b
  · cases a
theorem RDs.drop {xs : List D} {vs : List V} (h : RDs K G ι xs vs) (n : Nat) : RDs K G ι (xs.drop n) (vs.drop n) := by
  refine ⟨by rw [List.length_drop, List.length_drop, h.1], fun j e u a b => ?_⟩
  rw [List.getElem?_drop] at a b
  exact h.2 _ e u a b
theorem RD.tup' {a : Addr} {vs : List V} {xs : List D} (h : SqT K G a vs) (r : RDs K G ι xs vs) : RD K G ι (.tup xs) (.ref a) := .tup h r.1 r.2
theorem RD.lst' {a : Addr} {vs : List V} {xs : List D} (h : G a = some (.lst vs)) (r : RDs K G ι xs vs) : RD K G ι (.lst xs) (.ref a) := .lst h r.1 r.2
end
def RK (K : PySem.W.Frag) (G : Hp) (ι : List Addr) (ks : List Key) (ds : List D) (kvs : List (Key × V)) : Prop := kvs.map (·.1) = ks ∧ RDs K G ι ds (kvs.map (·.2))
def RF (K : PySem.W.Frag) (G : Hp) (ι : List Addr) (fs : List (Str × D)) (gs : List (Str × V)) : Prop := gs.map (·.1) = fs.map (·.1) ∧ RDs K G ι (fs.map (·.2)) (gs.map (·.2))
def ObOk (K : PySem.W.Frag) (G : Hp) (ι : List Addr) (H : Hp) (a : Addr) : Ob → Prop
  | .lst xs => ∃ vs, H a = some (.lst vs) ∧ RDs K G ι xs vs
  | .dic ks ds => ∃ kvs, H a = some (.dK kvs) ∧ RK K G ι ks ds kvs
  | .ins c fs => ∃ dx gs, H a = some (.ins (He.ga K c) dx gs) ∧ RF K G ι fs gs
  | .td w ks => ∃ xs, H a = some (.ext (TupD w a xs)) ∧ xs.map (·.1) = ks ∧ ∀ x ∈ xs, KeyAt K G x
structure Hs (K : PySem.W.Frag) (G : Hp) (ι : List Addr) (H : Hp) (h : List Ob) : Prop where
  s : Same G H
  nd : ι.Nodup
  len : ι.length = h.length
  g : ∀ a ∈ ι, G a = none
  nt : ∀ a ps, G a ≠ some (.tbl ps)
  ob : ∀ (k : Nat) a o, ι[k]? = some a → h[k]? = some o → ObOk K G ι H a o
def Sls (K : PySem.W.Frag) (G : Hp) (ι : List Addr) (σ : L2.St) (ρ : List (Option D)) : Prop := σ.length = ρ.length ∧ ∀ (i : Nat) d, ρ[i]? = some (some d) → ∃ v, σ[i]? = some (some v) ∧ RD K G ι d v
structure Ok (K : PySem.W.Frag) (T : List (Addr × Str)) (G : Hp) (ι : List Addr) (H : Hp) (σ : L2.St) (e : En) : Prop where
  hs : Hs K G ι H e.h
  sl : Sls K G ι σ e.ρ
  tb : LamX.Tabs T H
/-- how an exception lies -/
def XOk (K : PySem.W.Frag) (G : Hp) (ι : List Addr) (H : Hp) (fs : List (Str × D)) (dd : Option Addr) : Prop := (fs = [] ∧ dd = none) ∨ (fs ≠ [] ∧ ∃ d gs, dd = some d ∧ H d = some (.xd gs) ∧ ∀ f x, fs.lookup f = some x → ∃ v, gs.lookup f = some v ∧ RD K G ι x v)
structure Ct where
  K : PySem.W.Frag
  T : List (Addr × Str)
  W : WX
/-- what is wanted behind a piece that leaves the slots as they are -/
def PX (C : Ct) (G : Hp) (ι : List Addr) (σ : L2.St) {α : Type} (r : Res α) (k : α → En → Hp → List Addr → Hp → Prop) : Prop := match r with
  | .ok a e' => ∀ G' ι' H', Up G ι G' ι' → Ok C.K C.T G' ι' H' σ e' → k a e' G' ι' H'
  | .ex x fs e' => ∀ G' ι' H' dd, Up G ι G' ι' → Ok C.K C.T G' ι' H' σ e' → XOk C.K G' ι' H' fs dd → C.W (.ref (He.ga C.K x)) dd σ H'
  | .stuck => False
/-- an expression's reading by a function; a test's; an argument list's; that of a new thing, which nobody else knows -/
def tF (C : Ct) (f : M D) : TE := fun σ H Q => ∃ G ι e, Ok C.K C.T G ι H σ e ∧ PX C G ι σ (f e) fun d _ G' ι' H' => ∀ v, RD C.K G' ι' d v → Q v H'
def tFB (C : Ct) (f : M Bool) : TT := fun σ H Q => ∃ G ι e, Ok C.K C.T G ι H σ e ∧ PX C G ι σ (f e) fun b _ _ _ H' => Q b H'
def tFA (C : Ct) (f : M (List D)) : TA := fun σ H Q => ∃ G ι e, Ok C.K C.T G ι H σ e ∧ PX C G ι σ (f e) fun ds _ G' ι' H' => ∀ vs, RDs C.K G' ι' ds vs → Q vs H'
def tFO (C : Ct) (f : M Ob) : TE := fun σ H Q => ∃ G ι e, Ok C.K C.T G ι H σ e ∧ PX C G ι σ (f e) fun o _ G' ι' H' => ∀ a, G' a = none → a ∉ ι' → ObOk C.K G' ι' H' a o → Q (.ref a) H'
/-- how a statement goes on -/
inductive Fl where
  | nx | rt (d : D) | bk | ct
def PS' (C : Ct) (Z : Ends) (G : Hp) (ι : List Addr) (r : Res Fl) : Prop := match r with
  | .ok .nx e' => ∀ G' ι' H' σ', Up G ι G' ι' → Ok C.K C.T G' ι' H' σ' e' → Z.nx σ' H'
  | .ok .bk e' => ∀ G' ι' H' σ', Up G ι G' ι' → Ok C.K C.T G' ι' H' σ' e' → Z.bk σ' H'
  | .ok .ct e' => ∀ G' ι' H' σ', Up G ι G' ι' → Ok C.K C.T G' ι' H' σ' e' → Z.ct σ' H'
  | .ok (.rt d) e' => ∀ G' ι' H' σ' v, Up G ι G' ι' → Ok C.K C.T G' ι' H' σ' e' → RD C.K G' ι' d v → Z.rt v H'
  | .ex x fs e' => ∀ G' ι' H' σ' dd, Up G ι G' ι' → Ok C.K C.T G' ι' H' σ' e' → XOk C.K G' ι' H' fs dd → C.W (.ref (He.ga C.K x)) dd σ' H'
  | .stuck => False
def tFS (C : Ct) (f : M Fl) : TS := fun Z σ H => ∃ G ι e, Ok C.K C.T G ι H σ e ∧ PS' C Z G ι (f e)
def bnd {α β : Type} (f : M α) (g : α → M β) : M β := fun e => match f e with
  | .ok a e' => g a e'
  | .ex x fs e' => .ex x fs e'
  | .stuck => .stuck
def ret {α : Type} (a : α) : M α := fun e => .ok a e
section
variable {C : Ct} {G G' : Hp} {ι ι' : List Addr} {σ : L2.St} {α β : Type}
theorem PX.up {r : Res α} {k : α → En → Hp → List Addr → Hp → Prop} (h : PX C G ι σ r k) (u : Up G ι G' ι') : PX C G' ι' σ r k := by
  cases r with
  | ok a e' => exact fun G1 ι1 H1 u1 o => h G1 ι1 H1 (u.trans u1) o
  | ex x fs e' => exact fun G1 ι1 H1 dd u1 o q => h G1 ι1 H1 dd (u.trans u1) o q
  | stuck => exact h
theorem PX.imp {r : Res α} {k k' : α → En → Hp → List Addr → Hp → Prop} (h : PX C G ι σ r k) (i : ∀ a e' G' ι' H', Up G ι G' ι' → Ok C.K C.T G' ι' H' σ e' → k a e' G' ι' H' → k' a e' G' ι' H') : PX C G ι σ r k' := by
  cases r with
  | ok a e' => exact fun G1 ι1 H1 u1 o => i _ _ _ _ _ u1 o (h G1 ι1 H1 u1 o)
  | ex x fs e' => exact h
  | stuck => exact h
theorem PX.bnd {f : M α} {g : α → M β} {e : En} {k : β → En → Hp → List Addr → Hp → Prop} (h : PX C G ι σ (bnd f g e) k) : PX C G ι σ (f e) fun a e' G' ι' _ => PX C G' ι' σ (g a e') k := by
  unfold Fv.bnd at h
  cases q : f e with
  | ok a e' =>
    rw [q] at h
    exact fun G1 ι1 H1 u1 o => PX.up h u1
  | ex x fs e' =>
    rw [q] at h
    exact h
  | stuck =>
    rw [q] at h
    exact h
theorem PX.now {a : α} {e : En} {H : Hp} {k : α → En → Hp → List Addr → Hp → Prop} (h : PX C G ι σ (.ok a e) k) (o : Ok C.K C.T G ι H σ e) : k a e G ι H := h G ι H Up.refl o
theorem PS'.up {Z : Ends} {r : Res Fl} (h : PS' C Z G ι r) (u : Up G ι G' ι') : PS' C Z G' ι' r := by
  cases r with
  | ok a e' =>
    cases a with
    | nx => exact fun G1 ι1 H1 σ1 u1 o => h G1 ι1 H1 σ1 (u.trans u1) o
    | bk => exact fun G1 ι1 H1 σ1 u1 o => h G1 ι1 H1 σ1 (u.trans u1) o
    | ct => exact fun G1 ι1 H1 σ1 u1 o => h G1 ι1 H1 σ1 (u.trans u1) o
    | rt d => exact fun G1 ι1 H1 σ1 v u1 o q => h G1 ι1 H1 σ1 v (u.trans u1) o q
  | ex x fs e' => exact fun G1 ι1 H1 σ1 dd u1 o q => h G1 ι1 H1 σ1 dd (u.trans u1) o q
  | stuck => exact h
/-- an expression, then a statement's rest -/
theorem PS'.bnd {f : M α} {g : α → M Fl} {e : En} {Z : Ends} (h : PS' C Z G ι (bnd f g e)) : PX C G ι σ (f e) fun a e' G' ι' _ => PS' C Z G' ι' (g a e') := by
  unfold Fv.bnd at h
  cases q : f e with
  | ok a e' =>
    rw [q] at h
    exact fun G1 ι1 H1 u1 o => PS'.up h u1
  | ex x fs e' =>
    rw [q] at h
    exact fun G1 ι1 H1 dd u1 o q => h G1 ι1 H1 σ dd u1 o q
  | stuck =>
    rw [q] at h
    exact h
end
section
variable {X : Cx}
theorem imE {e : Expr} {t t' : TE} (h : PE X e t) (i : ∀ σ H Q, t' σ H Q → t σ H Q) : PE X e t' := ⟨fun pins s σ H Q I q => h.run pins s σ H Q I (i σ H Q q)⟩
theorem imT {e : Expr} {t t' : TT} (h : PT X e t) (i : ∀ σ H Q, t' σ H Q → t σ H Q) : PT X e t' := ⟨fun pins s σ H Q I q => h.run pins s σ H Q I (i σ H Q q)⟩
theorem imA {es : List Expr} {t t' : TA} (h : PA X es t) (i : ∀ σ H Q, t' σ H Q → t σ H Q) : PA X es t' := ⟨fun pos pins s σ H Q I q => h.run pos pins s σ H Q I (i σ H Q q)⟩
theorem imS {st : Stmt} {t t' : TS} (h : PS X st t) (i : ∀ Z σ H, t' Z σ H → t Z σ H) : PS X st t' := ⟨fun pins s σ H Z I q => h.run pins s σ H Z I (i Z σ H q)⟩
theorem imSs {st : List Stmt} {t t' : TS} (h : PSs X st t) (i : ∀ Z σ H, t' Z σ H → t Z σ H) : PSs X st t' := ⟨fun pins s σ H Z I q => h.run pins s σ H Z I (i Z σ H q)⟩
end
section
variable {K : PySem.W.Frag} {T : List (Addr × Str)} {G H : Hp} {ι : List Addr} {h : List Ob} {σ : L2.St} {e : En} {p : Addr} {o : HO}
theorem Hs.isSome (s : Hs K G ι H h) {a : Addr} (ha : a ∈ ι) : ∃ o, H a = some o := by
  obtain ⟨k, hk⟩ := List.getElem?_of_mem ha
  have hl : k < h.length := by
    rw [← s.len]
    exact (List.getElem?_eq_some_iff.mp hk).1
  have q := s.ob k a h[k] hk (List.getElem?_eq_getElem hl)
  cases e : h[k] with
  | lst xs =>
    rw [e] at q
    obtain ⟨vs, q, _⟩ := q
    exact ⟨_, q⟩
  | dic ks ds =>
    rw [e] at q
    obtain ⟨vs, q, _⟩ := q
    exact ⟨_, q⟩
  | ins c fs =>
    rw [e] at q
    obtain ⟨dx, gs, q, _⟩ := q
    exact ⟨_, q⟩
  | td w ks =>
    rw [e] at q
    obtain ⟨xs, q, _⟩ := q
    exact ⟨_, q⟩
theorem Hs.not_mem (s : Hs K G ι H h) (n : H p = none) : p ∉ ι := fun hp => by
  obtain ⟨o, q⟩ := s.isSome hp
  rw [n] at q
  cases q
theorem Hs.gnone (s : Hs K G ι H h) (n : H p = none) : G p = none := s.s.free n
theorem RK.up {G' : Hp} {ι' : List Addr} {ks : List Key} {ds : List D} {kvs : List (Key × V)} (r : RK K G ι ks ds kvs) (u : Up G ι G' ι') : RK K G' ι' ks ds kvs := ⟨r.1, r.2.up u⟩
theorem RF.up {G' : Hp} {ι' : List Addr} {fs : List (Str × D)} {gs : List (Str × V)} (r : RF K G ι fs gs) (u : Up G ι G' ι') : RF K G' ι' fs gs := ⟨r.1, r.2.up u⟩
theorem ObOk.up {G' H' : Hp} {ι' : List Addr} {a : Addr} {x : Ob} (r : ObOk K G ι H a x) (u : Up G ι G' ι') (q : H' a = H a) : ObOk K G' ι' H' a x := by
  cases x with
  | lst xs =>
    obtain ⟨vs, h1, h2⟩ := r
    exact ⟨vs, q.trans h1, h2.up u⟩
  | dic ks ds =>
    obtain ⟨vs, h1, h2⟩ := r
    exact ⟨vs, q.trans h1, h2.up u⟩
  | ins c fs =>
    obtain ⟨dx, vs, h1, h2⟩ := r
    exact ⟨dx, vs, q.trans h1, h2.up u⟩
  | td w ks =>
    obtain ⟨xs, h1, h2, h3⟩ := r
    exact ⟨xs, q.trans h1, h2, fun x m => (h3 x m).same u.g⟩
theorem ObOk.has {a : Addr} {x : Ob} (r : ObOk K G ι H a x) : ∃ o, H a = some o ∧ ∀ ps, o ≠ .tbl ps := by
  cases x with
  | lst xs =>
    obtain ⟨vs, h1, h2⟩ := r
    exact ⟨_, h1, fun _ z => by cases z⟩
  | dic ks ds =>
    obtain ⟨vs, h1, h2⟩ := r
    exact ⟨_, h1, fun _ z => by cases z⟩
  | ins c fs =>
    obtain ⟨dx, vs, h1, h2⟩ := r
    exact ⟨_, h1, fun _ z => by cases z⟩
  | td w ks =>
    obtain ⟨xs, h1, h2⟩ := r
    exact ⟨_, h1, fun _ z => by cases z⟩
/-- something that stays is made -/
theorem up_new (n : G p = none) : Up G ι (upd G p o) ι := ⟨Same.new n, List.prefix_refl _⟩
theorem Hs.new (s : Hs K G ι H h) (n : H p = none) (ho : ∀ ps, o ≠ .tbl ps := by intro _ z; cases z) : Hs K (upd G p o) ι (upd H p o) h := by
  have u : Up G ι (upd G p o) ι := up_new (s.gnone n)
  refine ⟨fun a x q => ?_, s.nd, s.len, fun a ha => ?_, fun a ps q => ?_, fun k a x hk hx => (s.ob k a x hk hx).up u ?_⟩
  · by_cases e : a = p
    · subst e
      rw [upd_same] at q ⊢
      exact q
    · rw [upd_ne e] at q ⊢
      exact s.s _ _ q
  · have e : a ≠ p := fun z => s.not_mem n (z ▸ ha)
    rw [upd_ne e]
    exact s.g a ha
  · by_cases e : a = p
    · rw [e, upd_same] at q
      exact ho ps (Option.some.inj q)
    · rw [upd_ne e] at q
      exact s.nt a ps q
  · have e : a ≠ p := fun z => s.not_mem n (z ▸ List.mem_of_getElem? hk)
    exact upd_ne e
theorem Sls.up {G' : Hp} {ι' : List Addr} {ρ : List (Option D)} (s : Sls K G ι σ ρ) (u : Up G ι G' ι') : Sls K G' ι' σ ρ := ⟨s.1, fun i d q => by
  obtain ⟨v, h1, h2⟩ := s.2 i d q
  exact ⟨v, h1, h2.up u⟩⟩
theorem Ok.new (k : Ok K T G ι H σ e) (n : H p = none) (ho : ∀ ps, o ≠ .tbl ps := by intro _ z; cases z) : Ok K T (upd G p o) ι (upd H p o) σ e :=
  ⟨k.hs.new n ho, k.sl.up (up_new (k.hs.gnone n)), k.tb.ext (Same.new n)⟩
/-- something new that is not yet known -/
theorem Hs.temp (s : Hs K G ι H h) (n : H p = none) : Hs K G ι (upd H p o) h :=
  ⟨fun a x q => Same.new n _ _ (s.s a x q), s.nd, s.len, s.g, s.nt, fun k a x hk hx => (s.ob k a x hk hx).up Up.refl (upd_ne fun z => s.not_mem n (z ▸ List.mem_of_getElem? hk))⟩
theorem Ok.temp (k : Ok K T G ι H σ e) (n : H p = none) : Ok K T G ι (upd H p o) σ e := ⟨k.hs.temp n, k.sl, k.tb.ext (Same.new n)⟩
end
end Fv
set_option Elab.async false
set_option linter.all false
set_option maxRecDepth 100000
set_option maxHeartbeats 4000000
set_option autoImplicit false
namespace Fv
open PySem PySem.Spec PyProof.Rows L2 Bm
section
variable {K : PySem.W.Frag} {T : List (Addr × Str)} {G H : Hp} {ι : List Addr} {h : List Ob} {σ : L2.St} {e : En} {a : Addr} {o : HO} {x : Ob}
theorem Hs.frz (s : Hs K G ι H h) (n : G a = none) (m : a ∉ ι) (q : H a = some o) (ho : ∀ ps, o ≠ .tbl ps := by intro _ z; cases z) : Hs K (upd G a o) ι H h := by
  refine ⟨fun b y z => ?_, s.nd, s.len, fun b hb => ?_, fun b ps z => ?_, fun k b y hk hy => (s.ob k b y hk hy).up (up_new n) rfl⟩
  · by_cases e : b = a
    · subst e
      rw [upd_same] at z
      rw [q]
      exact z
    · rw [upd_ne e] at z
      exact s.s _ _ z
  · rw [upd_ne (fun z : b = a => m (z ▸ hb))]
    exact s.g b hb
  · by_cases e : b = a
    · rw [e, upd_same] at z
      exact ho ps (Option.some.inj z)
    · rw [upd_ne e] at z
      exact s.nt b ps z
theorem Ok.frz (k : Ok K T G ι H σ e) (n : G a = none) (m : a ∉ ι) (q : H a = some o) (ho : ∀ ps, o ≠ .tbl ps := by intro _ z; cases z) : Ok K T (upd G a o) ι H σ e := ⟨k.hs.frz n m q ho, k.sl.up (up_new n), k.tb⟩
theorem up_snoc : Up G ι G (ι ++ [a]) := ⟨Same.refl _, List.prefix_append _ _⟩
theorem Hs.pub (s : Hs K G ι H h) (n : G a = none) (m : a ∉ ι) (q : ObOk K G ι H a x) : Hs K G (ι ++ [a]) H (h ++ [x]) := by
  refine ⟨s.s, ?_, ?_, fun b hb => ?_, s.nt, fun k b y hk hy => ?_⟩
  · rw [List.nodup_append]
    refine ⟨s.nd, by simp, fun b hb c hc => ?_⟩
    rw [List.mem_singleton.mp hc]
    exact fun z => m (z ▸ hb)
  · rw [List.length_append, List.length_append, s.len]
    rfl
  · rcases List.mem_append.mp hb with hb | hb
    · exact s.g b hb
    · rw [List.mem_singleton.mp hb]
      exact n
  · by_cases hlt : k < h.length
    · rw [List.getElem?_append_left hlt] at hy
      rw [List.getElem?_append_left (by rw [s.len]; exact hlt)] at hk
      exact (s.ob k b y hk hy).up up_snoc rfl
    · rw [List.getElem?_append_right (by omega)] at hy
      rw [List.getElem?_append_right (by rw [s.len]; omega), s.len] at hk
      have hz : k - h.length = 0 := by
        have := (List.getElem?_eq_some_iff.mp hy).1
        simp at this
        omega
      rw [hz] at hy hk
      cases hy
      cases hk
      exact q.up up_snoc rfl
theorem Ok.pub (k : Ok K T G ι H σ e) (n : G a = none) (m : a ∉ ι) (q : ObOk K G ι H a x) : Ok K T G (ι ++ [a]) H σ ⟨e.ρ, e.h ++ [x]⟩ := ⟨k.hs.pub n m q, k.sl.up up_snoc, k.tb⟩
theorem Ok.ref (k : Ok K T G ι H σ e) (n : G a = none) (m : a ∉ ι) (q : ObOk K G ι H a x) : RD K G (ι ++ [a]) (.ref e.h.length) (.ref a) := .ref (by
  rw [← k.hs.len, List.getElem?_append_right (Nat.le_refl _), Nat.sub_self]
  rfl)
end
def frzM (f : M Ob) : M D := bnd f fun o e => match o with
  | .lst xs => .ok (.lst xs) e
  | .dic ks ds => .ok (.dic ks ds) e
  | .ins _ _ => .stuck
  | .td _ _ => .stuck
def pubM (f : M Ob) : M D := bnd f fun o e => .ok (.ref e.h.length) ⟨e.ρ, e.h ++ [o]⟩
section
variable {X : Cx} {C : Ct} {e : Expr}
theorem v_frz {f : M Ob} (p : PE X e (tFO C f)) : PE X e (tF C (frzM f)) := imE p fun σ H Q h => by
  obtain ⟨G, ι, en, k, h⟩ := h
  refine ⟨G, ι, en, k, PX.imp h.bnd fun o e' G' ι' H' u k' q a n m b => ?_⟩
  cases o with
  | lst xs =>
    obtain ⟨vs, h1, h2⟩ := b
    exact q _ _ _ (up_new n) (k'.frz n m h1) _ (.lst' upd_same (h2.up (up_new n)))
  | dic ks ds =>
    obtain ⟨kvs, h1, h2, h3⟩ := b
    refine q _ _ _ (up_new n) (k'.frz n m h1) _ (.dic upd_same h2 (by have := h3.1; simpa using this) fun i d kv a b => ?_)
    exact (h3.2 i d kv.2 a (by rw [List.getElem?_map, b]; rfl)).up (up_new n)
  | ins c fs => exact q.elim
  | td w ks => exact q.elim
theorem v_pub {f : M Ob} (p : PE X e (tFO C f)) : PE X e (tF C (pubM f)) := imE p fun σ H Q h => by
  obtain ⟨G, ι, en, k, h⟩ := h
  exact ⟨G, ι, en, k, PX.imp h.bnd fun o e' G' ι' H' u k' q a n m b => q _ _ _ up_snoc (k'.pub n m b) _ (k'.ref n m b)⟩
def eV (i : Nat) : M D := fun e => match e.ρ[i]? with
  | some (some d) => .ok d e
  | _ => .stuck
theorem v_var {i : Nat} (p : PE X e (tVar i)) : PE X e (tF C (eV i)) := imE p fun σ H Q h => by
  obtain ⟨G, ι, en, k, h⟩ := h
  unfold eV at h
  split at h
  · rename_i d hd
    obtain ⟨v, h1, h2⟩ := k.sl.2 i d hd
    exact ⟨v, h1, h.now k v h2⟩
  · exact h.elim
theorem v_con {v : V} {d : D} (p : PE X e (tC v)) (r : ∀ G ι, RD C.K G ι d v) : PE X e (tF C (ret d)) := imE p fun σ H Q h => by
  obtain ⟨G, ι, en, k, h⟩ := h
  exact PX.now (a := d) (e := en) h k v (r G ι)
theorem v_int {i j pos} : PE X (.Constant (.int i) j pos) (tF C (ret (.int i))) := v_con pe_int fun _ _ => .int i
theorem v_bl {b j pos} : PE X (.Constant (.bool b) j pos) (tF C (ret (.bl b))) := v_con pe_bl fun _ _ => .bl b
theorem v_non {j pos} : PE X (.Constant .none j pos) (tF C (ret .non)) := v_con pe_non fun _ _ => .non
theorem v_str {x j pos} : PE X (.Constant (.str x) j pos) (tF C (ret (.str x))) := v_con pe_str fun _ _ => .str x
/-- a thing's reading: nothing known changes, more may be known -/
def Op2 (K : PySem.W.Frag) (r : R2) (g : List Ob → D → D → Option D) : Prop := ∀ (G : Hp) (ι : List Addr) (H : Hp) (h : List Ob) (x y d : D) (u v : V) (Q : VK), Hs K G ι H h → RD K G ι x u → RD K G ι y v → g h x y = some d →
  (∀ G' H' w, Same G G' → Same H H' → Hs K G' ι H' h → RD K G' ι d w → Q w H') → r u v H Q
def OpN (K : PySem.W.Frag) (r : List V → Hp → VK → Prop) (g : List Ob → List D → Option D) : Prop := ∀ (G : Hp) (ι : List Addr) (H : Hp) (h : List Ob) (xs : List D) (d : D) (vs : List V) (Q : VK), Hs K G ι H h → RDs K G ι xs vs → g h xs = some d →
  (∀ G' H' w, Same G G' → Same H H' → Hs K G' ι H' h → RD K G' ι d w → Q w H') → r vs H Q
/-- the same with a new thing that may change -/
def OpNO (K : PySem.W.Frag) (r : List V → Hp → VK → Prop) (g : List Ob → List D → Option Ob) : Prop := ∀ (G : Hp) (ι : List Addr) (H : Hp) (h : List Ob) (xs : List D) (o : Ob) (vs : List V) (Q : VK), Hs K G ι H h → RDs K G ι xs vs → g h xs = some o →
  (∀ H' a, Same H H' → Hs K G ι H' h → G a = none → a ∉ ι → ObOk K G ι H' a o → Q (.ref a) H') → r vs H Q
def lft {α : Type} (o : List Ob → Option α) : M α := fun e => match o e.h with
  | some d => .ok d e
  | none => .stuck
theorem PX.lft {G : Hp} {ι : List Addr} {σ : L2.St} {α : Type} {o : List Ob → Option α} {en : En} {k : α → En → Hp → List Addr → Hp → Prop} (h : PX C G ι σ (Fv.lft o en) k) : ∃ d, o en.h = some d ∧ PX C G ι σ (.ok d en) k := by
  unfold Fv.lft at h
  split at h
  · rename_i d hd
    exact ⟨d, hd, h⟩
  · exact h.elim
theorem Ok.grow {K : PySem.W.Frag} {T : List (Addr × Str)} {G G' H H' : Hp} {ι : List Addr} {σ : L2.St} {en : En} (k : Ok K T G ι H σ en) (g : Same G G') (s : Same H H') (q : Hs K G' ι H' en.h) : Ok K T G' ι H' σ en :=
  ⟨q, k.sl.up ⟨g, List.prefix_refl _⟩, k.tb.ext s⟩
def e2 (g : List Ob → D → D → Option D) (fa fb : M D) : M D := bnd fa fun x => bnd fb fun y => lft fun h => g h x y
theorem im2 {r : R2} {g : List Ob → D → D → Option D} {fa fb : M D} (s : Op2 C.K r g) (σ : L2.St) (H : Hp) (Q : VK) (h : tF C (e2 g fa fb) σ H Q) : tOp r (tF C fa) (tF C fb) σ H Q := by
  obtain ⟨G, ι, en, k, h⟩ := h
  refine ⟨G, ι, en, k, PX.imp h.bnd fun x e1 G1 ι1 H1 u1 k1 q1 u ru => ⟨G1, ι1, e1, k1, PX.imp q1.bnd fun y e2 G2 ι2 H2 u2 k2 q2 v rv => ?_⟩⟩
  obtain ⟨d, hd, q⟩ := q2.lft
  exact s G2 ι2 H2 e2.h x y d u v Q k2.hs (ru.up u2) rv hd fun G' H' w g1 s1 hs r => q G' ι2 H' ⟨g1, List.prefix_refl _⟩ (k2.grow g1 s1 hs) w r
theorem v_op {op : Operator} {a b : Expr} {pos : Pos} {r : R2} {g : List Ob → D → D → Option D} {fa fb : M D} (o : OpR X (binaryOp op) r) (s : Op2 C.K r g) (ha : PE X a (tF C fa)) (hb : PE X b (tF C fb)) : PE X (.BinOp a op b pos) (tF C (e2 g fa fb)) :=
  imE (pe_op o ha hb) fun σ H Q h => im2 s σ H Q h
end
end Fv
set_option Elab.async false
set_option linter.all false
set_option maxRecDepth 100000
set_option maxHeartbeats 4000000
set_option autoImplicit false
namespace Fv
open PySem PySem.Spec PyProof.Rows L2 Bm
def lstOf (h : List Ob) : D → Option (List D)
  | .lst xs => some xs
  | .ref k => match h[k]? with
    | some (.lst xs) => some xs
    | _ => none
  | _ => none
def seqOf (h : List Ob) : D → Option (List D)
  | .lst xs => some xs
  | .tup xs => some xs
  | .scr xs => some xs
  | .ref k => match h[k]? with
    | some (.lst xs) => some xs
    | _ => none
  | _ => none
section
variable {K : PySem.W.Frag} {T : List (Addr × Str)} {G H : Hp} {ι : List Addr} {h : List Ob} {d : D} {v : V} {xs : List D}
theorem Hs.cell (s : Hs K G ι H h) {k : Nat} {o : Ob} {a : Addr} (hk : ι[k]? = some a) (ho : h[k]? = some o) : ObOk K G ι H a o := s.ob k a o hk ho
theorem lst_rd (s : Hs K G ι H h) (r : RD K G ι d v) (e : lstOf h d = some xs) : ∃ a vs, v = .ref a ∧ H a = some (.lst vs) ∧ RDs K G ι xs vs := by
  cases r with
  | lst hh l q =>
    cases e
    exact ⟨_, _, rfl, s.s _ _ hh, l, q⟩
  | @ref k a hk =>
    have e : (match h[k]? with
      | some (.lst xs) => some xs
      | _ => none) = some xs := e
    split at e
    · rename_i ys hy
      cases e
      obtain ⟨vs, h1, h2⟩ := s.cell hk hy
      exact ⟨a, vs, rfl, h1, h2⟩
    · cases e
  | _ => cases e
theorem seq_rd (s : Hs K G ι H h) (r : RD K G ι d v) (e : seqOf h d = some xs) : ∃ a vs, v = .ref a ∧ SqA K H a vs ∧ RDs K G ι xs vs := by
  cases r with
  | lst hh l q =>
    cases e
    exact ⟨_, _, rfl, .inl (SqL.of (s.s _ _ hh)), l, q⟩
  | tup hh l q =>
    cases e
    exact ⟨_, _, rfl, .inr (sqT_at (fun o z => s.s _ o z) hh), l, q⟩
  | scr hh l q =>
    cases e
    exact ⟨_, _, rfl, .inl (s.s.seq hh), l, q⟩
  | @ref k a hk =>
    have e : (match h[k]? with
      | some (.lst xs) => some xs
      | _ => none) = some xs := e
    split at e
    · rename_i ys hy
      cases e
      obtain ⟨vs, h1, h2⟩ := s.cell hk hy
      exact ⟨a, vs, rfl, .inl (SqL.of h1), h2⟩
    · cases e
  | _ => cases e
theorem Hs.same_new {p : Addr} {o : HO} (s : Hs K G ι H h) (n : H p = none) : Same G (upd G p o) := Same.new (s.gnone n)
end
instance {i j : Int} : Decidable (CMul i j) := by unfold CMul; infer_instance
instance {i j : Int} : Decidable (CDivW i j) := by unfold CDivW; infer_instance
instance {i j : Int} : Decidable (CPow i j) := by unfold CPow; infer_instance
def int2 (g : Int → Int → Option D) : List Ob → D → D → Option D
  | _, .int i, .int j => g i j
  | _, _, _ => none
section
variable {K : PySem.W.Frag}
theorem o2I {c : Int → Int → Prop} {f : Int → Int → V} {g : Int → Int → Option D} (h : ∀ i j d, g i j = some d → c i j ∧ ∀ G ι, RD K G ι d (f i j)) : Op2 K (rI c f) (int2 g) := by
  intro G ι H hp x y d u v Q s rx ry e q
  cases rx with
  | int i =>
    cases ry with
    | int j =>
      obtain ⟨h1, h2⟩ := h i j d e
      exact ⟨i, j, rfl, rfl, h1, q G H _ (Same.refl _) (Same.refl _) s (h2 G ι)⟩
    | _ => cases e
  | _ => cases e
theorem o2I0 {f : Int → Int → V} {g : Int → Int → Option D} (h : ∀ i j d, g i j = some d → ∀ G ι, RD K G ι d (f i j)) : Op2 K (rI0 f) (int2 g) := by
  intro G ι H hp x y d u v Q s rx ry e q
  cases rx with
  | int i =>
    cases ry with
    | int j => exact ⟨i, j, rfl, rfl, q G H _ (Same.refl _) (Same.refl _) s (h i j d e G ι)⟩
    | _ => cases e
  | _ => cases e
end
def subD : List Ob → D → D → Option D := int2 fun i j => some (.int (i - j))
def divD : List Ob → D → D → Option D := int2 fun i j => if 0 < j ∧ j.natAbs.log2 < 9000 then some (.int (i / j)) else none
def modD : List Ob → D → D → Option D := int2 fun i j => if 0 < j then some (.int (i % j)) else none
def powD : List Ob → D → D → Option D := int2 fun i j => if 0 ≤ j ∧ j ≤ 1000000 ∧ i.natAbs < 2 ^ 64 then some (.int (i ^ j.toNat)) else none
def shlD : List Ob → D → D → Option D := int2 fun i j => if 0 ≤ j ∧ j ≤ 1000000 ∧ i.natAbs < 2 ^ 64 then some (.int (i * 2 ^ j.toNat)) else none
def shrD : List Ob → D → D → Option D := int2 fun i j => if 0 ≤ j then some (.int (i / 2 ^ j.toNat)) else none
def andD : List Ob → D → D → Option D := int2 fun i j => some (.int (Builtin.bitAnd i j))
def orD : List Ob → D → D → Option D := int2 fun i j => some (.int (Builtin.bitOr i j))
def xorD : List Ob → D → D → Option D := int2 fun i j => some (.int (Builtin.bitXor i j))
def ltD : List Ob → D → D → Option D := int2 fun i j => some (.bl (decide (i < j)))
def leD : List Ob → D → D → Option D := int2 fun i j => some (.bl (decide (i ≤ j)))
def gtD : List Ob → D → D → Option D := int2 fun i j => some (.bl (decide (j < i)))
def geD : List Ob → D → D → Option D := int2 fun i j => some (.bl (decide (j ≤ i)))
section
variable {K : PySem.W.Frag}
theorem s_sub : Op2 K (rI0 fun i j => .int (i - j)) subD := o2I0 fun i j d e G ι => by cases e; exact .int _
theorem s_div : Op2 K (rI CDivW fun i j => .int (i / j)) divD := o2I fun i j d e => by
  split at e
  · rename_i c
    cases e
    exact ⟨c, fun _ _ => .int _⟩
  · cases e
theorem s_mod : Op2 K (rI (fun _ j => 0 < j) fun i j => .int (i % j)) modD := o2I fun i j d e => by
  split at e
  · rename_i c
    cases e
    exact ⟨c, fun _ _ => .int _⟩
  · cases e
theorem s_pow : Op2 K (rI CPow fun i j => .int (i ^ j.toNat)) powD := o2I fun i j d e => by
  split at e
  · rename_i c
    cases e
    exact ⟨c, fun _ _ => .int _⟩
  · cases e
theorem s_shl : Op2 K (rI CPow fun i j => .int (i * 2 ^ j.toNat)) shlD := o2I fun i j d e => by
  split at e
  · rename_i c
    cases e
    exact ⟨c, fun _ _ => .int _⟩
  · cases e
theorem s_shr : Op2 K (rI (fun _ j => 0 ≤ j) fun i j => .int (i / 2 ^ j.toNat)) shrD := o2I fun i j d e => by
  split at e
  · rename_i c
    cases e
    exact ⟨c, fun _ _ => .int _⟩
  · cases e
theorem s_and : Op2 K (rI0 fun i j => .int (Builtin.bitAnd i j)) andD := o2I0 fun i j d e G ι => by cases e; exact .int _
theorem s_xor : Op2 K (rI0 fun i j => .int (Builtin.bitXor i j)) xorD := o2I0 fun i j d e G ι => by cases e; exact .int _
theorem s_lt : Op2 K (rI0 fun i j => .bl (decide (i < j))) ltD := o2I0 fun i j d e G ι => by cases e; exact .bl _
theorem s_le : Op2 K (rI0 fun i j => .bl (decide (i ≤ j))) leD := o2I0 fun i j d e G ι => by cases e; exact .bl _
theorem s_gt : Op2 K (rI0 fun i j => .bl (decide (j < i))) gtD := o2I0 fun i j d e G ι => by cases e; exact .bl _
theorem s_ge : Op2 K (rI0 fun i j => .bl (decide (j ≤ i))) geD := o2I0 fun i j d e G ι => by cases e; exact .bl _
end
def addD (h : List Ob) : D → D → Option D
  | .int i, .int j => some (.int (i + j))
  | .str a, .str b => if a.length + b.length ≤ sizeLine then some (.str (a ++ b)) else none
  | .tup xs, .tup ys => if xs.length + ys.length ≤ sizeLine then some (.tup (xs ++ ys)) else none
  | x, y => match lstOf h x, lstOf h y with
    | some xs, some ys => if xs.length + ys.length ≤ sizeLine then some (.lst (xs ++ ys)) else none
    | _, _ => none
def rAddA (K : PySem.W.Frag) : R2 := fun x y H Q => (rI0 (fun i j => .int (i + j)) x y H Q ∨ (∃ i j, x = .str i ∧ y = .str j ∧ i.length + j.length ≤ sizeLine ∧ Q (.str (i ++ j)) H)) ∨ rCatA K x y H Q ∨ rCat x y H Q
theorem catA_ok' {K : PySem.W.Frag} {G H : Hp} {ι : List Addr} {h : List Ob} {a b : Addr} {xs ys : List V} {Q : VK} (s : Hs K G ι H h) (ha : SqT K G a xs) (hb : SqT K G b ys) (hl : xs.length + ys.length ≤ sizeLine)
    (q : ∀ p G' H', Same G G' → Same H H' → Hs K G' ι H' h → SqT K G' p (xs ++ ys) → Q (.ref p) H') : rCatA K (.ref a) (.ref b) H Q := by
  have up : ∀ {c : Addr} {zs : List V}, SqT K G c zs → SqT K H c zs := fun z => sqT_at (fun o w => s.s _ o w) z
  refine ⟨a, b, xs, ys, rfl, rfl, up ha, up hb, hl, fun e => ?_, fun _ e => ?_, fun _ _ p n => ?_⟩
  · subst e
    exact q b G H (Same.refl _) (Same.refl _) s hb
  · subst e
    exact q a G H (Same.refl _) (Same.refl _) s (by rw [List.append_nil]; exact ha)
  · exact q p (upd G p _) (upd H p _) (s.same_new n) (Same.new n) (s.new n) (SqT.of upd_same)
theorem s_add {K : PySem.W.Frag} : Op2 K (rAddA K) addD := by
  intro G ι H h x y d u v Q s rx ry e q
  have lists : (match lstOf h x, lstOf h y with
    | some xs, some ys => if xs.length + ys.length ≤ sizeLine then some (D.lst (xs ++ ys)) else none
    | _, _ => none) = some d → rAddA K u v H Q := fun e => by
    split at e
    · rename_i xs ys h1 h2
      split at e
      · rename_i hl
        cases e
        obtain ⟨a, vs, rfl, a1, a2⟩ := lst_rd s rx h1
        obtain ⟨b, us, rfl, b1, b2⟩ := lst_rd s ry h2
        refine .inr (.inr ⟨a, b, vs, us, rfl, rfl, a1, b1, by rw [a2.1, b2.1]; exact hl, fun p n => ?_⟩)
        have g := s.same_new (o := .lst (vs ++ us)) n
        exact q _ _ _ g (Same.new n) (s.new n) (.lst' upd_same ((a2.append b2).up ⟨g, List.prefix_refl _⟩))
      · cases e
    · cases e
  cases rx with
  | int i =>
    cases ry with
    | int j =>
      cases e
      exact .inl (.inl ⟨i, j, rfl, rfl, q G H _ (Same.refl _) (Same.refl _) s (.int _)⟩)
    | _ => exact lists e
  | str i =>
    cases ry with
    | str j =>
      have e : (if i.length + j.length ≤ sizeLine then some (D.str (i ++ j)) else none) = some d := e
      split at e
      · rename_i hl
        cases e
        exact .inl (.inr ⟨i, j, rfl, rfl, hl, q G H _ (Same.refl _) (Same.refl _) s (.str _)⟩)
      · cases e
    | _ => exact lists e
  | tup ha la ea =>
    cases ry with
    | tup hb lb eb =>
      rename_i a vs xs b us ys
      have e : (if xs.length + ys.length ≤ sizeLine then some (D.tup (xs ++ ys)) else none) = some d := e
      split at e
      · rename_i hl
        cases e
        refine .inr (.inl (catA_ok' s ha hb (by rw [la, lb]; exact hl) fun p G' H' g1 s1 hs r => q G' H' _ g1 s1 hs (.tup' r ?_)))
        exact (RDs.append ⟨la, ea⟩ ⟨lb, eb⟩).up ⟨g1, List.prefix_refl _⟩
      · cases e
    | _ => exact lists e
  | _ => exact lists e
section
variable {X : Cx}
theorem opA_add : OpR X (binaryOp .Add) (rAddA X.K) := OpR.or (OpR.or op_add op_add_str) (OpR.or op_catA op_cat)
end
def mulD (h : List Ob) : D → D → Option D
  | .int i, .int j => if CMul i j then some (.int (i * j)) else none
  | x, y => match lstOf h x, y with
    | some xs, .int k => if -(2 ^ 63) ≤ k ∧ k < 2 ^ 63 ∧ xs.length * k.toNat ≤ sizeLine then some (.lst (List.replicate k.toNat xs).flatten) else none
    | _, _ => none
end Fv
set_option Elab.async false
set_option linter.all false
set_option maxRecDepth 100000
set_option maxHeartbeats 4000000
set_option autoImplicit false
namespace Fv
open PySem PySem.Spec PyProof.Rows L2 Bm
theorem tuple_mul1 (l : Addr) (items : Array Value) (n : Nat) (dd : Option Addr) (sl : Array (Option Value)) (u : Tok) :
    Meets (Builtin.«tuple.__mul__» ⟨[.ref l, .int 1 u], []⟩) (fun _ R s => s.heap.get? l = some { cls := .type "tuple", dict := dd, data := .seq items n, slots := sl } ∧
      R (.ok (.ret (Value.ref l))) s) :=
  .of_wp fun prog w A R s h => by
    obtain ⟨hp, g, d, tk, os⟩ := s
    obtain ⟨hl, h⟩ := h
    have f1 := AutoSeq1.idx_int
    wp_walk using wpAny_loadPart' hl
    repeat (first
      | (refine wpAny_ite_false (decide_eq_false (by decide)) ?_; wp_walk using wpAny_loadPart' hl)
      | (refine wpAny_ite_true (decide_eq_true (by simp)) ?_; wp_walk using wpAny_loadPart' hl))
    exact ⟨_, rfl, h⟩
def rRep1 (K : PySem.W.Frag) : R2 := fun x y H Q => ∃ l xs, x = .ref l ∧ y = .int 1 ∧ SqT K H l xs ∧ Q (.ref l) H
theorem op_rep1 {X : Cx} : OpR X (binaryOp .Mult) (rRep1 X.K) := by
  intro pins s σ H x y v u Q I rx ry h
  obtain ⟨l, xs, rfl, rfl, hT, q⟩ := h
  cases rx
  obtain ⟨t, rfl⟩ := ry
  obtain ⟨its, r, ⟨⟨cls, dd, data, sl⟩, ho, hc, n, hd⟩, hs⟩ := I.tuple hT
  simp only at hc hd
  subst hc hd
  refine wpAny_binaryOp_repeat_ref (T := "tuple") (U := "int") (by decide) ⟨_, ho, rfl⟩ (fun s' => typeIs_int s' 1 t) noFill_tuple_mul F.fills_int_mul F.slot_int_rmul repeat_tuple F.slot_int_index.lookup
    (call_meets F.slot_int_rmul (typeIs_int s 1 t) F.entry_int_rmul (F.args_int_rmul_2 _ _) (int_rmul_tuple 1 t l its.toArray n dd sl)
      ⟨ho, rfl, ⟨_, ho, rfl⟩, call_meets F.slot_tuple_mul ⟨_, ho, rfl⟩ F.entry_tuple_mul (F.args_tuple_mul_2 _ _) (tuple_mul1 l its.toArray n dd sl t) ⟨ho, ?_⟩⟩)
  exact ⟨.ref l, H, I, rfl, q⟩
def mulA (h : List Ob) : D → D → Option D
  | .int i, .int j => if CMul i j then some (.int (i * j)) else none
  | .tup xs, .int k => if k = 1 then some (.tup xs) else if xs.isEmpty = false ∧ 2 ≤ k ∧ k ≤ 1000 ∧ xs.length ≤ 1000 then some (.tup (List.replicate k.toNat xs).flatten) else none
  | x, .int k => match lstOf h x with
    | some xs => if -(2 ^ 63) ≤ k ∧ k < 2 ^ 63 ∧ xs.length * k.toNat ≤ sizeLine then some (.lst (List.replicate k.toNat xs).flatten) else none
    | none => none
  | _, _ => none
def rMulA (K : PySem.W.Frag) : R2 := fun x y H Q => (rI CMul (fun i j => .int (i * j)) x y H Q ∨ rRep1 K x y H Q) ∨ rRepT K x y H Q ∨ rRep x y H Q
theorem opA_mul {X : Cx} : OpR X (binaryOp .Mult) (rMulA X.K) := OpR.or (OpR.or op_mul op_rep1) (OpR.or op_repT op_rep)
theorem RDs.rep {K : PySem.W.Frag} {G : Hp} {ι : List Addr} {xs : List D} {vs : List V} (r : RDs K G ι xs vs) : ∀ n, RDs K G ι (List.replicate n xs).flatten (List.replicate n vs).flatten
  | 0 => .nil
  | n + 1 => by
    rw [List.replicate_succ, List.replicate_succ, List.flatten_cons, List.flatten_cons]
    exact r.append (RDs.rep r n)
theorem s_mul {K : PySem.W.Frag} : Op2 K (rMulA K) mulA := by
  intro G ι H h x y d u v Q s rx ry e q
  have lists : ∀ k, y = .int k → (match lstOf h x with
    | some xs => if -(2 ^ 63) ≤ k ∧ k < 2 ^ 63 ∧ xs.length * k.toNat ≤ sizeLine then some (D.lst (List.replicate k.toNat xs).flatten) else none
    | none => none) = some d → rMulA K u v H Q := fun k hy e' => by
    subst hy
    cases ry
    split at e'
    · rename_i xs h1
      split at e'
      · rename_i c
        cases e'
        obtain ⟨a, vs, rfl, a1, a2⟩ := lst_rd s rx h1
        refine .inr (.inr ⟨a, k, vs, rfl, rfl, a1, c.1, c.2.1, by rw [a2.1]; exact c.2.2, fun p n => ?_⟩)
        have g := s.same_new (o := .lst (List.replicate k.toNat vs).flatten) n
        exact q _ _ _ g (Same.new n) (s.new n) (.lst' upd_same ((a2.rep _).up ⟨g, List.prefix_refl _⟩))
      · cases e'
    · cases e'
  cases ry with
  | int j =>
    cases rx with
    | int i =>
      have e : (if CMul i j then some (D.int (i * j)) else none) = some d := e
      split at e
      · rename_i c
        cases e
        exact .inl (.inl ⟨i, j, rfl, rfl, c, q G H _ (Same.refl _) (Same.refl _) s (.int _)⟩)
      · cases e
    | tup ha la ea =>
      rename_i a vs xs
      have up : SqT K H a vs := sqT_at (fun o w => s.s _ o w) ha
      have e : (if j = 1 then some (D.tup xs) else if xs.isEmpty = false ∧ 2 ≤ j ∧ j ≤ 1000 ∧ xs.length ≤ 1000 then some (D.tup (List.replicate j.toNat xs).flatten) else none) = some d := e
      split at e
      · rename_i c
        subst c
        cases e
        exact .inl (.inr ⟨a, vs, rfl, rfl, up, q G H _ (Same.refl _) (Same.refl _) s (.tup ha la ea)⟩)
      · split at e
        · rename_i c
          cases e
          refine .inr (.inl ⟨a, j, vs, rfl, rfl, up, fun z => by
            rw [z] at la
            have hx := List.eq_nil_of_length_eq_zero la.symm
            rw [hx] at c
            exact absurd c.1 (by decide), c.2.1, c.2.2.1, by rw [la]; exact c.2.2.2, fun p n => ?_⟩)
          have g := s.same_new (o := .tup (List.replicate j.toNat vs).flatten) n
          exact q _ _ _ g (Same.new n) (s.new n) (.tup' (SqT.of upd_same) ((RDs.rep ⟨la, ea⟩ _).up ⟨g, List.prefix_refl _⟩))
        · cases e
    | _ => exact lists j rfl e
  | _ => cases rx <;> cases e
mutual
def toPW (go : Nat → Option PyData) : D → Option PyData
  | .non => some .none
  | .bl b => some (.bool b)
  | .int i => some (.int i)
  | .str x => some (.str x)
  | .tup xs => (toPs go xs).map .tuple
  | .lst xs => (toPs go xs).map .list
  | .scr xs => (toPs go xs).map .list
  | .ref k => go k
  | _ => none
def toPs (go : Nat → Option PyData) : List D → Option (List PyData)
  | [] => some []
  | x :: xs => match toPW go x, toPs go xs with
    | some p, some ps => some (p :: ps)
    | _, _ => none
end
def goN (h : List Ob) : Nat → Nat → Option PyData
  | 0, _ => none
  | m + 1, k => match h[k]? with
    | some (.lst xs) => (toPs (goN h m) xs).map .list
    | _ => none
def dataOf (h : List Ob) (d : D) : Option PyData := toPW (goN h 3) d
section
variable {K : PySem.W.Frag} {G H : Hp} {ι : List Addr} {h : List Ob} {go : Nat → Option PyData}
theorem dpAll {xs : List D} : ∀ {vs : List V} {ps : List PyData}, (∀ (i : Nat) d v, xs[i]? = some d → vs[i]? = some v → ∀ {p : PyData}, toPW go d = some p → Dp K H v p) → vs.length = xs.length → toPs go xs = some ps → DpAll K H vs ps := by
  induction xs with
  | nil =>
    intro vs ps _ r e
    unfold toPs at e
    cases e
    rw [List.eq_nil_of_length_eq_zero r]
    exact .nil
  | cons d xs ihl =>
    intro vs ps ih r e
    cases vs with
    | nil => cases r
    | cons v vs =>
      unfold toPs at e
      split at e
      · rename_i p ps' e1 e2
        cases e
        exact .cons (ih 0 d v rfl rfl e1) (ihl (fun i d' v' a b => ih (i + 1) d' v' (by simpa using a) (by simpa using b)) (by simpa using r) e2)
      · cases e
theorem RD.dp {d : D} {v : V} (r : RD K G ι d v) (s : Same G H) (hgo : ∀ (k : Nat) a p, ι[k]? = some a → go k = some p → Dp K H (.ref a) p) : ∀ {p : PyData}, toPW go d = some p → Dp K H v p := by
  induction r with
  | non =>
    intro p e
    unfold toPW at e
    cases e
    exact .non
  | bl b =>
    intro p e
    unfold toPW at e
    cases e
    exact .bl b
  | int i =>
    intro p e
    unfold toPW at e
    cases e
    exact .int i
  | str x =>
    intro p e
    unfold toPW at e
    cases e
    exact .str x
  | tup hh l q ih =>
    intro p e
    unfold toPW at e
    obtain ⟨ps, e1, rfl⟩ := Option.map_eq_some_iff.mp e
    exact .tup (sqT_at (fun o w => s _ o w) hh) (dpAll (fun i d v a b => ih i d v a b) l e1)
  | lst hh l q ih =>
    intro p e
    unfold toPW at e
    obtain ⟨ps, e1, rfl⟩ := Option.map_eq_some_iff.mp e
    exact .lst (SqL.of (s _ _ hh)) (dpAll (fun i d v a b => ih i d v a b) l e1)
  | scr hh l q ih =>
    intro p e
    unfold toPW at e
    obtain ⟨ps, e1, rfl⟩ := Option.map_eq_some_iff.mp e
    exact .lst (s.seq hh) (dpAll (fun i d v a b => ih i d v a b) l e1)
  | ref hk =>
    intro p e
    unfold toPW at e
    exact hgo _ _ _ hk e
  | _ =>
    intro p e
    unfold toPW at e
    cases e
theorem goN_dp (s : Hs K G ι H h) : ∀ (m k : Nat) (a : Addr) (p : PyData), ι[k]? = some a → goN h m k = some p → Dp K H (.ref a) p
  | 0, k, a, p, _, e => by cases e
  | m + 1, k, a, p, hk, e => by
    unfold goN at e
    split at e
    · rename_i xs hx
      obtain ⟨ps, e1, rfl⟩ := Option.map_eq_some_iff.mp e
      obtain ⟨vs, h1, h2⟩ := s.cell hk hx
      exact .lst (SqL.of h1) (dpAll (fun i d v a b => (h2.2 i d v a b).dp s.s (goN_dp s m)) h2.1 e1)
    · cases e
theorem data_dp {d : D} {v : V} {p : PyData} (s : Hs K G ι H h) (r : RD K G ι d v) (e : dataOf h d = some p) : Dp K H v p := r.dp s.s (goN_dp s 3) e
end
def eqF (h : List Ob) (x y : D) : Option Bool := match x, y with
  | .int i, .int j => some (decide (i = j))
  | .str i, .str j => some (decide (i = j))
  | .bl i, .bl j => some (decide (i = j))
  | x, y => match dataOf h x, dataOf h y with
    | some p, some q => if SeqAt.shaped p = true ∧ SeqAt.shaped q = true then some (PyData.eqv p q) else none
    | _, _ => none
def eqD (h : List Ob) (x y : D) : Option D := (eqF h x y).map .bl
def neD (h : List Ob) (x y : D) : Option D := (eqF h x y).map fun b => .bl (!b)
def rEqA (K : PySem.W.Frag) : R2 := fun x y H Q => rEq x y H Q ∨ rEqD K x y H Q
def rNeA (K : PySem.W.Frag) : R2 := fun x y H Q => rNe x y H Q ∨ rNeD K x y H Q
theorem s_eq {K : PySem.W.Frag} : Op2 K (rEqA K) eqD := by
  intro G ι H h x y d u v Q s rx ry e q
  have go : (match dataOf h x, dataOf h y with
    | some p, some q => if SeqAt.shaped p = true ∧ SeqAt.shaped q = true then some (PyData.eqv p q) else none
    | _, _ => none).map D.bl = some d → rEqA K u v H Q := fun e => by
    obtain ⟨b, e, rfl⟩ := Option.map_eq_some_iff.mp e
    split at e
    · rename_i p1 p2 h1 h2
      split at e
      · rename_i c
        cases e
        exact .inr ⟨p1, p2, data_dp s rx h1, data_dp s ry h2, c.1, c.2, q G H _ (Same.refl _) (Same.refl _) s (.bl _)⟩
      · cases e
    · cases e
  have one : ∀ {b : Bool}, scal u v = true → d = .bl b → decide (u = v) = b → rEqA K u v H Q := fun {b} c e1 e2 => by
    subst e1
    refine .inl ⟨c, ?_⟩
    rw [e2]
    exact q G H _ (Same.refl _) (Same.refl _) s (.bl _)
  cases rx with
  | int i =>
    cases ry with
    | int j =>
      cases e
      exact one rfl rfl (by simp)
    | _ => exact go e
  | str i =>
    cases ry with
    | str j =>
      cases e
      exact one rfl rfl (by simp)
    | _ => exact go e
  | bl i =>
    cases ry with
    | bl j =>
      cases e
      exact one rfl rfl (by simp)
    | _ => exact go e
  | _ => exact go e
theorem s_ne {K : PySem.W.Frag} : Op2 K (rNeA K) neD := by
  intro G ι H h x y d u v Q s rx ry e q
  have go : (match dataOf h x, dataOf h y with
    | some p, some q => if SeqAt.shaped p = true ∧ SeqAt.shaped q = true then some (PyData.eqv p q) else none
    | _, _ => none).map (fun b => D.bl (!b)) = some d → rNeA K u v H Q := fun e => by
    split at e
    · rename_i p1 p2 h1 h2
      split at e
      · rename_i c
        have ed : D.bl (!PyData.eqv p1 p2) = d := Option.some.inj e
        subst ed
        exact .inr ⟨p1, p2, data_dp s rx h1, data_dp s ry h2, c.1, c.2, q G H _ (Same.refl _) (Same.refl _) s (.bl _)⟩
      · cases e
    · cases e
  have one : ∀ {b : Bool}, scal u v = true → d = .bl (!b) → decide (u = v) = b → rNeA K u v H Q := fun {b} c e1 e2 => by
    subst e1
    refine .inl ⟨c, ?_⟩
    rw [e2]
    exact q G H _ (Same.refl _) (Same.refl _) s (.bl _)
  cases rx with
  | int i =>
    cases ry with
    | int j =>
      cases e
      exact one rfl rfl (by simp)
    | _ => exact go e
  | str i =>
    cases ry with
    | str j =>
      cases e
      exact one rfl rfl (by simp)
    | _ => exact go e
  | bl i =>
    cases ry with
    | bl j =>
      cases e
      exact one rfl rfl (by simp)
    | _ => exact go e
  | _ => exact go e
theorem opA_eq {X : Cx} (hu : X.A.units + 64 < cLine) : OpR X (compareOp .Eq) (rEqA X.K) := OpR.or op_eq (op_eqD hu)
theorem opA_ne {X : Cx} (hu : X.A.units + 64 < cLine) : OpR X (compareOp .NotEq) (rNeA X.K) := OpR.or op_ne (op_neD hu)
end Fv
set_option Elab.async false
set_option linter.all false
set_option maxRecDepth 100000
set_option maxHeartbeats 4000000
set_option autoImplicit false
namespace Fv
open PySem PySem.Spec PyProof.Rows L2 Bm
def flatD : D → Bool
  | .non => true
  | .bl _ => true
  | .int _ => true
  | .str _ => true
  | _ => false
def dV : D → V
  | .bl b => .bl b
  | .int i => .int i
  | .str x => .str x
  | _ => .non
section
variable {K : PySem.W.Frag} {G H : Hp} {ι : List Addr} {h : List Ob}
end
def isN : D → Bool
  | .non => true
  | _ => false
def isND (_ : List Ob) (x y : D) : Option D := if isN y then some (.bl (isN x)) else none
def isnotND (_ : List Ob) (x y : D) : Option D := if isN y then some (.bl (!isN x)) else none
section
variable {K : PySem.W.Frag}
end
def inF (h : List Ob) (x y : D) : Option Bool := match y with
  | .str z => match x with
    | .str w => some (!(Builtin.Str.occurrences z w 0 z.length 1).isEmpty)
    | _ => none
  | y => match seqOf h y with
    | some ys => if flatD x = true ∧ ys.all flatD = true then some (ys.any fun z => eqV (dV z) (dV x)) else none
    | none => none
def inD (h : List Ob) (x y : D) : Option D := (inF h x y).map .bl
def notinD (h : List Ob) (x y : D) : Option D := match inF h x y with
  | some b => some (.bl (!b))
  | none => none
def rInA (K : PySem.W.Frag) : R2 := fun x y H Q => rIn K false x y H Q ∨ (∃ i j, x = .str i ∧ y = .str j ∧ Q (.bl (!(Builtin.Str.occurrences j i 0 j.length 1).isEmpty)) H)
def rNotInA (K : PySem.W.Frag) : R2 := fun x y H Q => rIn K true x y H Q ∨ (∃ i j, x = .str i ∧ y = .str j ∧ Q (.bl (!(!(Builtin.Str.occurrences j i 0 j.length 1).isEmpty))) H)
section
variable {K : PySem.W.Frag} {G H : Hp} {ι : List Addr} {h : List Ob}
end
def bM (f : M D) : M Bool := bnd f fun d e => match d with
  | .bl b => .ok b e
  | _ => .stuck
def andM (f g : M Bool) : M Bool := bnd f fun b => if b then g else ret false
def orM (f g : M Bool) : M Bool := bnd f fun b => if b then ret true else g
def notM (f : M Bool) : M Bool := bnd f fun b => ret (!b)
def andV (f g : M D) : M D := bnd (bM f) fun b => if b then g else ret (.bl false)
def orV (f g : M D) : M D := bnd (bM f) fun b => if b then ret (.bl true) else g
def notV (f : M D) : M D := bnd (bM f) fun b => ret (.bl (!b))
def ifM (c : M Bool) (f g : M D) : M D := bnd c fun b => if b then f else g
section
variable {X : Cx} {C : Ct} {a b e : Expr} {pos : Pos}
theorem v_cmp {op : CmpOp} {r : R2} {g : List Ob → D → D → Option D} {fa fb : M D} (o : OpR X (compareOp op) r) (s : Op2 C.K r g) (ha : PE X a (tF C fa)) (hb : PE X b (tF C fb)) (hm : behindInMarks op b = false) : PE X (.Compare a [op] [b] pos) (tF C (e2 g fa fb)) :=
  imE (pe_cmpR o ha hb hm) fun σ H Q h => im2 s σ H Q h
theorem imB {f : M D} (σ : L2.St) (H : Hp) (Q : Bool → Hp → Prop) (h : tFB C (bM f) σ H Q) : tB (tF C f) σ H Q := by
  obtain ⟨G, ι, en, k, h⟩ := h
  refine ⟨G, ι, en, k, PX.imp h.bnd fun d e1 G1 ι1 H1 u1 k1 q1 v r => ?_⟩
  cases r with
  | bl b => exact ⟨b, rfl, PX.now (a := b) q1 k1⟩
  | _ => exact q1.elim
theorem v_test {f : M D} (p : PE X e (tF C f)) (he : ∀ whole, isTrue e X.env whole = (do let v ← whole; standAt e.pos; holding [v] (truthy v)) := by intro _; rfl) : PT X e (tFB C (bM f)) := imT (pt_val p he) imB
/-- a comparison as a test -/
theorem v_tcmp {op : CmpOp} {r : R2} {g : List Ob → D → D → Option D} {fa fb : M D} (o : OpR X (compareOp op) r) (s : Op2 C.K r g) (ha : PE X a (tF C fa)) (hb : PE X b (tF C fb)) (hm : behindInMarks op b = false) : PT X (.Compare a [op] [b] pos) (tFB C (bM (e2 g fa fb))) :=
  imT (pt_cmpR o ha hb hm) fun σ H Q h => im2 s σ H _ (by
    obtain ⟨G, ι, en, k, h⟩ := h
    refine ⟨G, ι, en, k, PX.imp h.bnd fun d e1 G1 ι1 H1 u1 k1 q1 v r => ?_⟩
    cases r with
    | bl b => exact ⟨b, rfl, PX.now (a := b) q1 k1⟩
    | _ => exact q1.elim)
theorem imAnd {f g : M Bool} (σ : L2.St) (H : Hp) (Q : Bool → Hp → Prop) (h : tFB C (andM f g) σ H Q) : tAnd (tFB C f) (tFB C g) σ H Q := by
  obtain ⟨G, ι, en, k, h⟩ := h
  refine ⟨G, ι, en, k, PX.imp h.bnd fun c e1 G1 ι1 H1 u1 k1 q1 => ?_⟩
  cases c with
  | true => exact iteT ⟨G1, ι1, e1, k1, q1⟩
  | false => exact iteF (PX.now (a := false) q1 k1)
theorem imOr {f g : M Bool} (σ : L2.St) (H : Hp) (Q : Bool → Hp → Prop) (h : tFB C (orM f g) σ H Q) : tOr (tFB C f) (tFB C g) σ H Q := by
  obtain ⟨G, ι, en, k, h⟩ := h
  refine ⟨G, ι, en, k, PX.imp h.bnd fun c e1 G1 ι1 H1 u1 k1 q1 => ?_⟩
  cases c with
  | true => exact iteT (PX.now (a := true) q1 k1)
  | false => exact iteF ⟨G1, ι1, e1, k1, q1⟩
theorem imW {t t' : TT} (h : PW X e t) (i : ∀ σ H Q, t' σ H Q → t σ H Q) : PW X e t' := ⟨fun w pins s σ H Q I q => h.run w pins s σ H Q I (i σ H Q q)⟩
theorem w_and1 {f : M Bool} (ha : PT X a (tFB C f)) : PW X (.BoolOp .And [a] pos) (tFB C f) := pw_and1 ha
theorem w_or1 {f : M Bool} (ha : PT X a (tFB C f)) : PW X (.BoolOp .Or [a] pos) (tFB C f) := pw_or1 ha
theorem w_and {rest : List Expr} {f g : M Bool} (ha : PT X a (tFB C f)) (hb : PW X (.BoolOp .And (b :: rest) pos) (tFB C g)) : PW X (.BoolOp .And (a :: b :: rest) pos) (tFB C (andM f g)) := imW (pw_and ha hb) imAnd
theorem w_or {rest : List Expr} {f g : M Bool} (ha : PT X a (tFB C f)) (hb : PW X (.BoolOp .Or (b :: rest) pos) (tFB C g)) : PW X (.BoolOp .Or (a :: b :: rest) pos) (tFB C (orM f g)) := imW (pw_or ha hb) imOr
theorem t_not {f : M Bool} (ha : PT X a (tFB C f)) : PT X (.UnaryOp .Not a pos) (tFB C (notM f)) := imT (pt_not ha) fun σ H Q h => by
  obtain ⟨G, ι, en, k, h⟩ := h
  exact ⟨G, ι, en, k, PX.imp h.bnd fun c e1 G1 ι1 H1 u1 k1 q1 => PX.now (a := !c) q1 k1⟩
def tIfB (c f g : M Bool) : M Bool := bnd c fun b => if b then f else g
theorem v_one {op : BoolOp} {f : M D} (p : PE X a (tF C f)) : PE X (.BoolOp op [a] pos) (tF C f) := pe_one p
theorem PX.bM {G : Hp} {ι : List Addr} {σ : L2.St} {α : Type} {f : M D} {g : Bool → M α} {en : En} {k : α → En → Hp → List Addr → Hp → Prop} (h : PX C G ι σ (Fv.bnd (Fv.bM f) g en) k) : PX C G ι σ (f en) fun d e1 G1 ι1 H1 => ∀ v, RD C.K G1 ι1 d v → ∃ b, v = .bl b ∧ PX C G1 ι1 σ (g b e1) k :=
  PX.imp (PX.bnd (PX.bnd h |>.imp fun _ _ _ _ _ _ _ z => z)) fun d e1 G1 ι1 H1 u1 k1 q1 v r => by
    cases r with
    | bl b => exact ⟨b, rfl, PX.now (a := b) q1 k1⟩
    | _ => exact q1.elim
theorem v_and {rest : List Expr} {f g : M D} (ha : PE X a (tF C f)) (hb : PE X (.BoolOp .And (b :: rest) pos) (tF C g)) : PE X (.BoolOp .And (a :: b :: rest) pos) (tF C (andV f g)) := imE (pe_and ha hb) fun σ H Q h => by
  obtain ⟨G, ι, en, k, h⟩ := h
  refine ⟨G, ι, en, k, PX.imp (PX.bM h) fun d e1 G1 ι1 H1 u1 k1 q1 v r => ?_⟩
  obtain ⟨b, rfl, q⟩ := q1 v r
  refine ⟨b, rfl, ?_⟩
  cases b with
  | true => exact iteT ⟨G1, ι1, e1, k1, q⟩
  | false => exact iteF (PX.now (a := D.bl false) q k1 _ (.bl _))
theorem v_not {f : M D} (ha : PE X a (tF C f)) : PE X (.UnaryOp .Not a pos) (tF C (notV f)) := imE (pe_not ha) fun σ H Q h => by
  obtain ⟨G, ι, en, k, h⟩ := h
  refine ⟨G, ι, en, k, PX.imp (PX.bM h) fun d e1 G1 ι1 H1 u1 k1 q1 v r => ?_⟩
  obtain ⟨b, rfl, q⟩ := q1 v r
  exact ⟨b, rfl, PX.now (a := D.bl (!b)) q k1 _ (.bl _)⟩
theorem v_if {c : Expr} {fc : M Bool} {f g : M D} (hc : PT X c (tFB C fc)) (ha : PE X a (tF C f)) (hb : PE X b (tF C g)) : PE X (.IfExp c a b pos) (tF C (ifM fc f g)) := imE (pe_ifExp hc ha hb) fun σ H Q h => by
  obtain ⟨G, ι, en, k, h⟩ := h
  refine ⟨G, ι, en, k, PX.imp h.bnd fun c e1 G1 ι1 H1 u1 k1 q1 => ?_⟩
  cases c with
  | true => exact iteT ⟨G1, ι1, e1, k1, q1⟩
  | false => exact iteF ⟨G1, ι1, e1, k1, q1⟩
def nilM : M (List D) := ret []
def consM (f : M D) (g : M (List D)) : M (List D) := bnd f fun x => bnd g fun xs => ret (x :: xs)
theorem a_nil : PA X [] (tFA C nilM) := imA pa_nil fun σ H Q h => by
  obtain ⟨G, ι, en, k, h⟩ := h
  exact PX.now (a := ([] : List D)) h k [] .nil
theorem imCons {f : M D} {g : M (List D)} (σ : L2.St) (H : Hp) (Q : List V → Hp → Prop) (h : tFA C (consM f g) σ H Q) : tCons (tF C f) (tFA C g) σ H Q := by
  obtain ⟨G, ι, en, k, h⟩ := h
  refine ⟨G, ι, en, k, PX.imp h.bnd fun x e1 G1 ι1 H1 u1 k1 q1 v r => ⟨G1, ι1, e1, k1, PX.imp q1.bnd fun xs e2 G2 ι2 H2 u2 k2 q2 vs rs => ?_⟩⟩
  exact PX.now (a := x :: xs) q2 k2 _ (.cons (r.up u2) rs)
theorem a_cons {es : List Expr} {f : M D} {g : M (List D)} (ha : PE X e (tF C f)) (hr : PA X es (tFA C g)) (hs : starEach (e :: es) X.env = (false, eval e X.env) :: starEach es X.env := by rfl) : PA X (e :: es) (tFA C (consM f g)) := imA (pa_cons ha hr hs) imCons
def tupM (f : M (List D)) : M D := bnd f fun ds => lft fun _ => if ds.length ≤ 1000 then some (.tup ds) else none
theorem lim {n : Nat} (h : n ≤ 1000) : n ≤ sizeLine := Nat.le_trans h (by decide)
theorem v_tup {es : List Expr} {x1} {f : M (List D)} (h : PA X es (tFA C f)) : PE X (.Tuple es x1 pos) (tF C (tupM f)) := imE (pe_tup h) fun σ H Q h => by
  obtain ⟨G, ι, en, k, h⟩ := h
  refine ⟨G, ι, en, k, PX.imp h.bnd fun ds e1 G1 ι1 H1 u1 k1 q1 vs r => ?_⟩
  obtain ⟨d, hd, q⟩ := q1.lft
  split at hd
  · rename_i hl
    cases hd
    refine ⟨by rw [r.1]; exact lim hl, fun p n => ?_⟩
    exact q _ _ _ (up_new (k1.hs.gnone n)) (k1.new n) _ (.tup' (SqT.of upd_same) (r.up (up_new (k1.hs.gnone n))))
  · cases hd
def lstM (f : M (List D)) : M Ob := bnd f fun ds => lft fun _ => if ds.length ≤ 1000 then some (.lst ds) else none
theorem o_lst {es : List Expr} {f : M (List D)} (h : PA X es (tFA C f)) : PE X (.List es pos) (tFO C (lstM f)) := imE (pe_lst h) fun σ H Q h => by
  obtain ⟨G, ι, en, k, h⟩ := h
  refine ⟨G, ι, en, k, PX.imp h.bnd fun ds e1 G1 ι1 H1 u1 k1 q1 vs r => ?_⟩
  obtain ⟨d, hd, q⟩ := q1.lft
  split at hd
  · rename_i hl
    cases hd
    refine ⟨by rw [r.1]; exact lim hl, fun p n => ?_⟩
    exact q _ _ _ Up.refl (k1.temp n) p (k1.hs.gnone n) (k1.hs.not_mem n) ⟨vs, upd_same, r⟩
  · cases hd
end
end Fv
set_option Elab.async false
set_option linter.all false
set_option maxRecDepth 100000
set_option maxHeartbeats 4000000
set_option autoImplicit false
namespace Fv
open PySem PySem.Spec PyProof.Rows L2 Bm
def cN (g : List Ob → List D → Option D) (f : M (List D)) : M D := bnd f fun ds => lft fun h => g h ds
def cO (g : List Ob → List D → Option Ob) (f : M (List D)) : M Ob := bnd f fun ds => lft fun h => g h ds
section
variable {X : Cx} {C : Ct} {e : Expr}
theorem v_b {r : List V → Hp → VK → Prop} {g : List Ob → List D → Option D} {f : M (List D)} (s : OpN C.K r g) (p : PE X e (tCB r (tFA C f))) : PE X e (tF C (cN g f)) := imE p fun σ H Q h => by
  obtain ⟨G, ι, en, k, h⟩ := h
  refine ⟨G, ι, en, k, PX.imp h.bnd fun ds e1 G1 ι1 H1 u1 k1 q1 vs r => ?_⟩
  obtain ⟨d, hd, q⟩ := q1.lft
  exact s G1 ι1 H1 e1.h ds d vs Q k1.hs r hd fun G' H' w g1 s1 hs r => q G' ι1 H' ⟨g1, List.prefix_refl _⟩ (k1.grow g1 s1 hs) w r
theorem o_b {r : List V → Hp → VK → Prop} {g : List Ob → List D → Option Ob} {f : M (List D)} (s : OpNO C.K r g) (p : PE X e (tCB r (tFA C f))) : PE X e (tFO C (cO g f)) := imE p fun σ H Q h => by
  obtain ⟨G, ι, en, k, h⟩ := h
  refine ⟨G, ι, en, k, PX.imp h.bnd fun ds e1 G1 ι1 H1 u1 k1 q1 vs r => ?_⟩
  obtain ⟨o, hd, q⟩ := q1.lft
  exact s G1 ι1 H1 e1.h ds o vs Q k1.hs r hd fun H' a s1 hs n m ob => q G1 ι1 H' Up.refl (k1.grow (Same.refl _) s1 hs) a n m ob
end
section
variable {K : PySem.W.Frag} {G H : Hp} {ι : List Addr} {h : List Ob}
theorem RDs.one_of {d : D} {vs : List V} (r : RDs K G ι [d] vs) : ∃ v, vs = [v] ∧ RD K G ι d v := by
  obtain ⟨v, vs', rfl, r1, r2⟩ := r.inv_cons
  rw [r2.inv_nil]
  exact ⟨v, rfl, r1⟩
theorem RDs.two_of {d e : D} {vs : List V} (r : RDs K G ι [d, e] vs) : ∃ v w, vs = [v, w] ∧ RD K G ι d v ∧ RD K G ι e w := by
  obtain ⟨v, vs', rfl, r1, r2⟩ := r.inv_cons
  obtain ⟨w, rfl, r3⟩ := r2.one_of
  exact ⟨v, w, rfl, r1, r3⟩
/-- len -/
def lenD (h : List Ob) : List D → Option D
  | [.str z] => if z.length ≤ sizeLine then some (.int z.length) else none
  | [d] => (seqOf h d).map fun xs => .int xs.length
  | _ => none
theorem s_len : OpN K (fun xs H Q => ∃ x n, xs = [x] ∧ LenV K x H n ∧ Q (.int n) H) lenD := by
  intro G ι H h xs d vs Q s rs e q
  match xs, rs, e with
  | [], _, e => cases e
  | [x], rs, e =>
    obtain ⟨v, rfl, r⟩ := rs.one_of
    have go : (seqOf h x).map (fun xs => D.int xs.length) = some d → ∃ x n, [v] = [x] ∧ LenV K x H n ∧ Q (.int n) H := fun e => by
      obtain ⟨ys, e1, rfl⟩ := Option.map_eq_some_iff.mp e
      obtain ⟨a, us, rfl, h1, h2⟩ := seq_rd s r e1
      refine ⟨.ref a, us.length, rfl, ?_, ?_⟩
      · rcases h1 with h1 | h1
        · exact .inl ⟨us, h1, rfl⟩
        · exact .inr ⟨us, h1, rfl⟩
      · rw [h2.1]
        exact q G H _ (Same.refl _) (Same.refl _) s (.int _)
    cases r with
    | str z =>
      have e : (if z.length ≤ sizeLine then some (D.int z.length) else none) = some d := e
      split at e
      · rename_i c
        cases e
        exact ⟨.str z, z.length, rfl, ⟨c, rfl⟩, q G H _ (Same.refl _) (Same.refl _) s (.int _)⟩
      · cases e
    | _ => exact go e
  | x :: y :: r, _, e => cases x <;> cases e
/-- list(xs), a new one -/
def listD (h : List Ob) : List D → Option Ob
  | [d] => (seqOf h d).map .lst
  | _ => none
theorem s_list : OpNO K (fun xs H Q => ∃ p ys, xs = [.ref p] ∧ (SqL K H p ys ∨ SqT K H p ys) ∧ ∀ l, H l = none → Q (.ref l) (upd H l (.lst ys))) listD := by
  intro G ι H h xs o vs Q s rs e q
  match xs, rs, e with
  | [], _, e => cases e
  | [x], rs, e =>
    obtain ⟨v, rfl, r⟩ := rs.one_of
    obtain ⟨ys, e1, rfl⟩ := Option.map_eq_some_iff.mp e
    obtain ⟨a, us, rfl, h1, h2⟩ := seq_rd s r e1
    exact ⟨a, us, rfl, h1, fun l n => q _ l (Same.new n) (s.temp n) (s.gnone n) (s.not_mem n) ⟨us, upd_same, h2⟩⟩
  | x :: y :: r, _, e => cases e
/-- tuple(xs) -/
def tupleD (h : List Ob) : List D → Option D
  | [d] => (seqOf h d).map .tup
  | _ => none
theorem tup_rd {d : D} {v : V} {xs : List D} (s : Hs K G ι H h) (r : RD K G ι d v) (e : seqOf h d = some xs) : ∃ a vs, v = .ref a ∧ (SqL K H a vs ∨ (SqT K H a vs ∧ SqT K G a vs)) ∧ RDs K G ι xs vs := by
  cases r with
  | tup hh l q =>
    cases e
    exact ⟨_, _, rfl, .inr ⟨sqT_at (fun o z => s.s _ o z) hh, hh⟩, l, q⟩
  | lst hh l q =>
    obtain ⟨a, vs, e1, h1, h2⟩ := seq_rd s (RD.lst hh l q) e
    cases e
    exact ⟨_, _, rfl, .inl (SqL.of (s.s _ _ hh)), l, q⟩
  | scr hh l q =>
    cases e
    exact ⟨_, _, rfl, .inl (s.s.seq hh), l, q⟩
  | @ref k a hk =>
    have e : (match h[k]? with
      | some (.lst xs) => some xs
      | _ => none) = some xs := e
    split at e
    · rename_i ys hy
      cases e
      obtain ⟨vs, h1, h2⟩ := s.cell hk hy
      exact ⟨a, vs, rfl, .inl (SqL.of h1), h2⟩
    · cases e
  | _ => cases e
theorem s_tuple : OpN K (fun xs H Q => ∃ p ys, xs = [.ref p] ∧ ((SqL K H p ys ∧ ∀ l, H l = none → Q (.ref l) (upd H l (.tup ys))) ∨ (SqT K H p ys ∧ Q (.ref p) H))) tupleD := by
  intro G ι H h xs d vs Q s rs e q
  match xs, rs, e with
  | [], _, e => cases e
  | [x], rs, e =>
    obtain ⟨v, rfl, r⟩ := rs.one_of
    obtain ⟨ys, e1, rfl⟩ := Option.map_eq_some_iff.mp e
    obtain ⟨a, us, rfl, h1, h2⟩ := tup_rd s r e1
    refine ⟨a, us, rfl, ?_⟩
    rcases h1 with h1 | ⟨h1, h3⟩
    · refine .inl ⟨h1, fun l n => ?_⟩
      have g := s.same_new (o := .tup us) n
      exact q _ _ _ g (Same.new n) (s.new n) (.tup' (SqT.of upd_same) (h2.up ⟨g, List.prefix_refl _⟩))
    · exact .inr ⟨h1, q G H _ (Same.refl _) (Same.refl _) s (.tup' h3 h2)⟩
  | x :: y :: r, _, e => cases e
/-- int(x), str(n), min, max, divmod -/
def intD (_ : List Ob) : List D → Option D
  | [.int i] => some (.int i)
  | [.bl k] => some (.int (if k then 1 else 0))
  | _ => none
theorem s_int : OpN K (fun xs H Q => (∃ i, xs = [.int i] ∧ Q (.int i) H) ∨ ∃ k, xs = [.bl k] ∧ Q (.int (if k then 1 else 0)) H) intD := by
  intro G ι H h xs d vs Q s rs e q
  match xs, rs, e with
  | [], _, e => cases e
  | [x], rs, e =>
    obtain ⟨v, rfl, r⟩ := rs.one_of
    cases r with
    | int i =>
      cases e
      exact .inl ⟨i, rfl, q G H _ (Same.refl _) (Same.refl _) s (.int _)⟩
    | bl k =>
      cases e
      exact .inr ⟨k, rfl, q G H _ (Same.refl _) (Same.refl _) s (.int _)⟩
    | _ => cases e
  | x :: y :: r, _, e => cases x <;> cases e
def strD (_ : List Ob) : List D → Option D
  | [.int i] => if i.natAbs.log2 < 1920 then some (.str (toString i)) else none
  | _ => none
def two (g : Int → Int → Option D) (_ : List Ob) : List D → Option D
  | [.int i, .int j] => g i j
  | _ => none
theorem two_of {g : Int → Int → Option D} {xs : List D} {vs : List V} {d : D} (rs : RDs K G ι xs vs) (e : two g h xs = some d) : ∃ i j, vs = [.int i, .int j] ∧ g i j = some d := by
  unfold two at e
  split at e
  · rename_i i j
    obtain ⟨v, w, rfl, r1, r2⟩ := rs.two_of
    cases r1
    cases r2
    exact ⟨i, j, rfl, e⟩
  · cases e
def maxD := two fun i j => some (.int (if j > i then j else i))
def minD := two fun i j => some (.int (if j < i then j else i))
def divmodD := two fun i j => if 0 < j ∧ j < 1073741824 then some (.tup [.int (i / j), .int (i % j)]) else none
/-- sum of whole numbers in a list or tuple -/
def intsOf : List D → Option (List Int)
  | [] => some []
  | .int i :: r => (intsOf r).map (i :: ·)
  | _ :: _ => none
theorem ints_rd : ∀ {xs : List D} {vs : List V} {ns : List Int}, RDs K G ι xs vs → intsOf xs = some ns → vs = ns.map V.int := by
  intro xs
  induction xs with
  | nil =>
    intro vs ns r e
    cases e
    exact r.inv_nil
  | cons d xs ih =>
    intro vs ns r e
    obtain ⟨v, vs', rfl, r1, r2⟩ := r.inv_cons
    cases r1 with
    | int i =>
      obtain ⟨ms, e1, rfl⟩ := Option.map_eq_some_iff.mp (show (intsOf xs).map (i :: ·) = some ns from e)
      rw [ih r2 e1] <;> rfl
    | _ => cases e
def sumD (h : List Ob) : List D → Option D
  | [d] => match lstOf h d with
    | some xs => (intsOf xs).map fun ns => .int ns.sum
    | none => none
  | _ => none
theorem s_sum : OpN K (rSum K) sumD := by
  intro G ι H h xs d vs Q s rs e q
  match xs, rs, e with
  | [], _, e => cases e
  | [x], rs, e =>
    obtain ⟨v, rfl, r⟩ := rs.one_of
    have e : (match lstOf h x with
      | some xs => (intsOf xs).map fun ns => D.int ns.sum
      | none => none) = some d := e
    split at e
    · rename_i ys hy
      obtain ⟨ns, e1, rfl⟩ := Option.map_eq_some_iff.mp e
      obtain ⟨a, us, rfl, h1, h2⟩ := lst_rd s r hy
      rw [ints_rd h2 e1] at h1
      exact ⟨a, ns, rfl, SqL.of h1, q G H _ (Same.refl _) (Same.refl _) s (.int _)⟩
    · cases e
  | x :: y :: r, _, e => cases e
def kdOf (h : List Ob) : D → Option String
  | .non => some "NoneType"
  | .bl _ => some "bool"
  | .int _ => some "int"
  | .str _ => some "str"
  | .lst _ => some "list"
  | .scr _ => some "list"
  | .tup _ => some "tuple"
  | .ref k => match h[k]? with
    | some (.lst _) => some "list"
    | _ => none
  | _ => none
theorem kd_rd {d : D} {v : V} {n : String} (s : Hs K G ι H h) (r : RD K G ι d v) (e : kdOf h d = some n) : Kd K H v n := by
  cases r with
  | non => cases e; exact .non
  | bl b => cases e; exact .bl b
  | int i => cases e; exact .int i
  | str x => cases e; exact .str x
  | lst hh l q => cases e; exact .lst (SqL.of (s.s _ _ hh))
  | scr hh l q => cases e; exact .lst (s.s.seq hh)
  | tup hh l q => cases e; exact .tup (sqT_at (fun o z => s.s _ o z) hh)
  | @ref k a hk =>
    have e : (match h[k]? with
      | some (.lst _) => some "list"
      | _ => none) = some n := e
    split at e
    · rename_i ys hy
      cases e
      obtain ⟨vs, h1, h2⟩ := s.cell hk hy
      exact .lst (SqL.of h1)
    · cases e
  | _ => cases e
def isiNames : List String := ["int", "bool", "str", "list", "tuple"]
def isiD (h : List Ob) : List D → Option D
  | [x, .typ c] => if c ∈ isiNames then (kdOf h x).map fun n => .bl (isiB n c) else none
  | _ => none
theorem s_isi : OpN K (rIsi K) isiD := by
  intro G ι H h xs d vs Q s rs e q
  unfold isiD at e
  split at e
  · rename_i x c
    split at e
    · rename_i hc
      obtain ⟨n, e1, rfl⟩ := Option.map_eq_some_iff.mp e
      obtain ⟨v, w, rfl, r1, r2⟩ := rs.two_of
      cases r2
      exact isi_ok (kd_rd s r1 e1) hc (q G H _ (Same.refl _) (Same.refl _) s (.bl _))
    · cases e
  · cases e
end
def negM (f : M D) : M D := bnd f fun d => lft fun _ => match d with
  | .int i => some (.int (-i))
  | _ => none
theorem v_neg {X : Cx} {C : Ct} {a : Expr} {pos : Pos} {f : M D} (p : PE X a (tF C f)) : PE X (.UnaryOp .USub a pos) (tF C (negM f)) := imE (pe_un un_neg p) fun σ H Q h => by
  obtain ⟨G, ι, en, k, h⟩ := h
  refine ⟨G, ι, en, k, PX.imp h.bnd fun d e1 G1 ι1 H1 u1 k1 q1 v r => ?_⟩
  obtain ⟨x, hx, q⟩ := q1.lft
  cases r with
  | int i =>
    cases hx
    exact ⟨i, rfl, PX.now (a := D.int (-i)) q k1 _ (.int _)⟩
  | _ => cases hx
def chM (g g' : List Ob → D → D → Option D) (fa fb fc : M D) : M D := bnd fa fun x => bnd fb fun y => bnd (bM (lft fun h => g h x y)) fun b => if b then bnd fc fun z => lft fun h => g' h y z else ret (.bl false)
theorem v_chain {X : Cx} {C : Ct} {op op' : CmpOp} {a b c : Expr} {pos : Pos} {r r' : R2} {g g' : List Ob → D → D → Option D} {fa fb fc : M D} (ho : OpR X (compareOp op) r) (ho' : OpR X (compareOp op') r') (s : Op2 C.K r g) (s' : Op2 C.K r' g')
    (ha : PE X a (tF C fa)) (hb : PE X b (tF C fb)) (hc : PE X c (tF C fc)) (hm : lastMarks [op, op'] [b, c] = false := by with_unfolding_all rfl) : PE X (.Compare a [op, op'] [b, c] pos) (tF C (chM g g' fa fb fc)) := imE (pe_chain ho ho' ha hb hc hm) fun σ H Q h => by
  obtain ⟨G, ι, en, k, h⟩ := h
  refine ⟨G, ι, en, k, PX.imp h.bnd fun x e1 G1 ι1 H1 u1 k1 q1 u ru => ⟨G1, ι1, e1, k1, PX.imp q1.bnd fun y e2 G2 ι2 H2 u2 k2 q2 v rv => ?_⟩⟩
  have q3 := PX.bM q2
  obtain ⟨d, hd, q4⟩ := q3.lft
  refine s G2 ι2 H2 e2.h x y d u v _ k2.hs (ru.up u2) rv hd fun G3 H3 w g3 s3 hs3 r3 => ?_
  have k3 := k2.grow g3 s3 hs3
  have up3 : Up G2 ι2 G3 ι2 := ⟨g3, List.prefix_refl _⟩
  obtain ⟨b, rfl, q5⟩ := q4 G3 ι2 H3 up3 k3 w r3
  refine ⟨b, rfl, ?_⟩
  cases b with
  | true =>
    refine iteT ⟨G3, ι2, e2, k3, PX.imp (PX.bnd q5) fun z e4 G4 ι4 H4 u4 k4 q6 t rt => ?_⟩
    obtain ⟨d2, hd2, q7⟩ := q6.lft
    exact s' G4 ι4 H4 e4.h y z d2 v t Q k4.hs (rv.up (up3.trans u4)) rt hd2 fun G' H' w g1 s1 hs r => q7 G' ι4 H' ⟨g1, List.prefix_refl _⟩ (k4.grow g1 s1 hs) w r
  | false => exact iteF (PX.now (a := D.bl false) q5 k3 _ (.bl _))
def ixD (h : List Ob) (x y : D) : Option D := match y with
  | .int i => match x with
    | .str z => if z.length ≤ sizeLine then (atI z.cps.toList i).map fun c => .str ⟨#[c]⟩ else none
    | x => match seqOf h x with
      | some xs => atI xs i
      | none => none
  | _ => none
theorem RDs.atI {K : PySem.W.Frag} {G : Hp} {ι : List Addr} {xs : List D} {vs : List V} {i : Int} {d : D} (r : RDs K G ι xs vs) (e : L2.atI xs i = some d) : ∃ v, L2.atI vs i = some v ∧ RD K G ι d v := by
  unfold L2.atI at e ⊢
  rw [r.1]
  cases hj : ixN xs.length i with
  | none =>
    rw [hj] at e
    cases e
  | some j =>
    rw [hj] at e
    exact r.get e
theorem s_ix {K : PySem.W.Frag} : Op2 K (rIx K) ixD := by
  intro G ι H h x y d u v Q s rx ry e q
  cases ry with
  | int i =>
    have go : (match seqOf h x with
      | some xs => atI xs i
      | none => none) = some d → rIx K u (.int i) H Q := fun e => by
      split at e
      · rename_i xs hx
        obtain ⟨a, us, rfl, h1, h2⟩ := seq_rd s rx hx
        obtain ⟨w, e1, r1⟩ := h2.atI e
        have fin := q G H w (Same.refl _) (Same.refl _) s r1
        rcases h1 with h1 | h1
        · exact .inl ⟨a, us, i, w, rfl, rfl, h1, e1, fin⟩
        · exact .inr (.inl ⟨a, us, i, w, rfl, rfl, h1, e1, fin⟩)
      · cases e
    cases rx with
    | str z =>
      have e : (if z.length ≤ sizeLine then (atI z.cps.toList i).map fun c => D.str ⟨#[c]⟩ else none) = some d := e
      split at e
      · rename_i c
        obtain ⟨c', e1, rfl⟩ := Option.map_eq_some_iff.mp e
        exact .inr (.inr ⟨z, i, c', rfl, rfl, c, e1, q G H _ (Same.refl _) (Same.refl _) s (.str _)⟩)
      · cases e
    | _ => exact go e
  | _ => cases e
theorem v_ix {X : Cx} {C : Ct} {a b : Expr} {pos : Pos} {fa fb : M D} {r : R2} {g : List Ob → D → D → Option D} (o : IxR X r) (s : Op2 C.K r g) (ha : PE X a (tF C fa)) (hb : PE X b (tF C fb)) (hs : PlainIx b) : PE X (.Subscript a b pos) (tF C (e2 g fa fb)) :=
  imE (pe_ix o ha hb hs) fun σ H Q h => im2 s σ H Q h
def prt (f : Option (M D)) : M (Option Int) := match f with
  | none => ret none
  | some f => bnd f fun d => lft fun _ => match d with
    | .int i => some (some i)
    | _ => none
def tFP (C : Ct) (f : M (Option Int)) : TO := fun σ H Q => ∃ G ι e, Ok C.K C.T G ι H σ e ∧ PX C G ι σ (f e) fun b _ _ _ H' => Q b H'
section
variable {X : Cx} {C : Ct} {e : Expr} {lo hi : Option Expr} {pos p2 : Pos}
theorem imO {e : Option Expr} {t t' : TO} (h : PO X e t) (i : ∀ σ H Q, t' σ H Q → t σ H Q) : PO X e t' := ⟨fun pins s σ H Q I q => h.run pins s σ H Q I (i σ H Q q)⟩
theorem p_none : PO X none (tFP C (prt none)) := imO po_none fun σ H Q h => by
  obtain ⟨G, ι, en, k, h⟩ := h
  exact PX.now (a := (none : Option Int)) h k
theorem p_some {f : M D} (p : PE X e (tF C f)) : PO X (some e) (tFP C (prt (some f))) := imO (po_some p) fun σ H Q h => by
  obtain ⟨G, ι, en, k, h⟩ := h
  refine ⟨G, ι, en, k, PX.imp h.bnd fun d e1 G1 ι1 H1 u1 k1 q1 v r => ?_⟩
  obtain ⟨x, hx, q⟩ := q1.lft
  cases r with
  | int i =>
    cases hx
    exact ⟨i, rfl, PX.now (a := some i) q k1⟩
  | _ => cases hx
end
def lsqOf (h : List Ob) : D → Option (List D)
  | .lst xs => some xs
  | .scr xs => some xs
  | .ref k => match h[k]? with
    | some (.lst xs) => some xs
    | _ => none
  | _ => none
theorem lsq_rd {K : PySem.W.Frag} {G H : Hp} {ι : List Addr} {h : List Ob} {d : D} {v : V} {xs : List D} (s : Hs K G ι H h) (r : RD K G ι d v) (e : lsqOf h d = some xs) : ∃ a vs, v = .ref a ∧ SqL K H a vs ∧ RDs K G ι xs vs := by
  cases r with
  | lst hh l q =>
    cases e
    exact ⟨_, _, rfl, SqL.of (s.s _ _ hh), l, q⟩
  | scr hh l q =>
    cases e
    exact ⟨_, _, rfl, s.s.seq hh, l, q⟩
  | @ref k a hk =>
    have e : (match h[k]? with
      | some (.lst xs) => some xs
      | _ => none) = some xs := e
    split at e
    · rename_i ys hy
      cases e
      obtain ⟨vs, h1, h2⟩ := s.cell hk hy
      exact ⟨a, vs, rfl, SqL.of h1, h2⟩
    · cases e
  | _ => cases e
def cut {α : Type} (xs : List α) (lo hi : Option Int) : List α := (xs.drop (HT.sIx xs.length 0 lo)).take (HT.sIx xs.length xs.length hi - HT.sIx xs.length 0 lo)
def slD (h : List Ob) (x : D) (lo hi : Option Int) : Option D := match x with
  | .str z => if z.length ≤ sizeLine then some (.str (cutS z lo hi)) else none
  | .tup xs => some (.tup (cut xs lo hi))
  | x => (lsqOf h x).map fun xs => .lst (cut xs lo hi)
def rSlN (K : PySem.W.Frag) : V → Option Int → Option Int → Hp → VK → Prop := fun x lo hi H Q => rSlAny K x lo hi H Q ∨ rSlS x lo hi H Q
theorem sl_n {X : Cx} : SlR X (rSlN X.K) := sl_any.or sl_str
theorem RDs.cut {K : PySem.W.Frag} {G : Hp} {ι : List Addr} {xs : List D} {vs : List V} (r : RDs K G ι xs vs) (lo hi : Option Int) : RDs K G ι (Fv.cut xs lo hi) (cutV vs lo hi) := by
  unfold Fv.cut cutV
  rw [r.1]
  exact (r.drop _).take _
theorem cut_whole {α : Type} {xs : List α} {lo hi : Option Int} (h1 : HT.sIx xs.length 0 lo = 0) (h2 : HT.sIx xs.length xs.length hi = xs.length) : cut xs lo hi = xs := by
  unfold cut
  rw [h1, h2, List.drop_zero, Nat.sub_zero, List.take_length]
def slM (fx : M D) (fl fh : M (Option Int)) : M D := bnd fx fun x => bnd fl fun lo => bnd fh fun hi => lft fun h => slD h x lo hi
theorem v_sl {X : Cx} {C : Ct} {e : Expr} {lo hi : Option Expr} {pos p2 : Pos} {fx : M D} {fl fh : M (Option Int)} (hX : C.K = X.K) (p : PE X e (tF C fx)) (hl : PO X lo (tFP C fl)) (hh : PO X hi (tFP C fh)) : PE X (.Subscript e (.Slice lo hi none p2) pos) (tF C (slM fx fl fh)) := imE (pe_slice sl_n p hl hh) fun σ H Q h => by
  obtain ⟨G, ι, en, k, h⟩ := h
  refine ⟨G, ι, en, k, PX.imp h.bnd fun x e1 G1 ι1 H1 u1 k1 q1 v r => ⟨G1, ι1, e1, k1, PX.imp q1.bnd fun l e2 G2 ι2 H2 u2 k2 q2 => ⟨G2, ι2, e2, k2, PX.imp q2.bnd fun u e3 G3 ι3 H3 u3 k3 q3 => ?_⟩⟩⟩
  obtain ⟨d, hd, q⟩ := q3.lft
  have s := k3.hs
  rw [← hX]
  have r3 := (r.up u2).up u3
  clear r q1 q2
  have go : (lsqOf e3.h x).map (fun xs => D.lst (cut xs l u)) = some d → rSlN C.K v l u H3 Q := fun e => by
    obtain ⟨ys, e1, rfl⟩ := Option.map_eq_some_iff.mp e
    obtain ⟨a, us, rfl, h1, h2⟩ := lsq_rd s r3 e1
    refine .inl (.inl ⟨a, us, rfl, h1, fun p n => ?_⟩)
    have g := s.same_new (o := .lst (cutV us l u)) n
    exact q _ _ _ ⟨g, List.prefix_refl _⟩ (k3.new n) _ (.lst' upd_same ((h2.cut l u).up ⟨g, List.prefix_refl _⟩))
  cases r3 with
  | str z =>
    have e : (if z.length ≤ sizeLine then some (D.str (cutS z l u)) else none) = some d := hd
    split at e
    · rename_i c
      cases e
      exact .inr ⟨z, rfl, c, PX.now q k3 _ (.str _)⟩
    · cases e
  | tup hh ll qq =>
    rename_i a vs xs
    cases hd
    have up : SqT C.K H3 a vs := sqT_at (fun o w => s.s _ o w) hh
    have rr : RDs C.K G3 ι3 xs vs := ⟨ll, qq⟩
    refine .inl (.inr ⟨a, vs, rfl, up, fun hw => ?_, fun hw p n => ?_⟩)
    · rw [ll] at hw
      rw [cut_whole hw.1 hw.2] at q
      exact PX.now q k3 _ (.tup' hh rr)
    · have g := s.same_new (o := .tup (cutV vs l u)) n
      exact q _ _ _ ⟨g, List.prefix_refl _⟩ (k3.new n) _ (.tup' (SqT.of upd_same) ((rr.cut l u).up ⟨g, List.prefix_refl _⟩))
  | lst hh ll qq => exact go hd
  | scr hh ll qq => exact go hd
  | ref hk => exact go hd
  | _ => cases hd
end Fv
set_option Elab.async false
set_option linter.all false
set_option maxRecDepth 100000
set_option maxHeartbeats 4000000
set_option autoImplicit false
namespace Fv
open PySem PySem.Spec PyProof.Rows L2 Bm
def seqM (f g : M Fl) : M Fl := fun e => match f e with
  | .ok .nx e' => g e'
  | r => r
def exprM (f : M D) : M Fl := bnd f fun _ => ret .nx
def retM (f : M D) : M Fl := bnd f fun d => ret (.rt d)
def putS (i : Nat) (d : D) (e : En) : Option En := some ⟨e.ρ.set i (some d), e.h⟩
def setM (f : M D) (b : D → En → Option En) : M Fl := bnd f fun d e => match b d e with
  | some e' => .ok .nx e'
  | none => .stuck
def ifS (c : M Bool) (f g : M Fl) : M Fl := bnd c fun b => if b then f else g
section
variable {X : Cx} {C : Ct} {st : Stmt} {ss : List Stmt} {e : Expr} {pos : Pos}
theorem s_nil : PSs X [] (tFS C (ret .nx)) := imSs pss_nil fun Z σ H h => by
  obtain ⟨G, ι, en, k, h⟩ := h
  exact h G ι H σ Up.refl k
theorem imSeq {f g : M Fl} (Z : Ends) (σ : L2.St) (H : Hp) (h : tFS C (seqM f g) Z σ H) : tSeq (tFS C f) (tFS C g) Z σ H := by
  obtain ⟨G, ι, en, k, h⟩ := h
  refine ⟨G, ι, en, k, ?_⟩
  unfold seqM at h
  cases q : f en with
  | ok a e' =>
    rw [q] at h
    cases a with
    | nx => exact fun G1 ι1 H1 σ1 u1 k1 => ⟨G1, ι1, e', k1, PS'.up h u1⟩
    | rt d => exact h
    | bk => exact h
    | ct => exact h
  | ex x fs e' =>
    rw [q] at h
    exact h
  | stuck =>
    rw [q] at h
    exact h
theorem s_cons {f g : M Fl} (p : PS X st (tFS C f)) (q : PSs X ss (tFS C g)) : PSs X (st :: ss) (tFS C (seqM f g)) := imSs (pss_cons p q) imSeq
theorem s_one {f : M Fl} (p : PS X st (tFS C f)) : PSs X [st] (tFS C f) := pss_one p
theorem PS'.nx {Z : Ends} {G : Hp} {ι : List Addr} {en : En} (h : PS' C Z G ι (ret Fl.nx en)) {H : Hp} {σ : L2.St} (k : Ok C.K C.T G ι H σ en) : Z.nx σ H := h G ι H σ Up.refl k
theorem s_expr {f : M D} (p : PE X e (tF C f)) (hs : swapsWith e none pos.line X.env = pure false := by rfl) : PS X (.Expr e pos) (tFS C (exprM f)) := imS (ps_expr p hs) fun Z σ H h => by
  obtain ⟨G, ι, en, k, h⟩ := h
  exact ⟨G, ι, en, k, PX.imp (PS'.bnd h) fun d e1 G1 ι1 H1 u1 k1 q1 v r => PS'.nx q1 k1⟩
theorem s_ret {f : M D} (p : PE X e (tF C f)) : PS X (.Return (some e) pos) (tFS C (retM f)) := imS (ps_ret p) fun Z σ H h => by
  obtain ⟨G, ι, en, k, h⟩ := h
  exact ⟨G, ι, en, k, PX.imp (PS'.bnd h) fun d e1 G1 ι1 H1 u1 k1 q1 v r => q1 G1 ι1 H1 σ v Up.refl k1 r⟩
theorem s_if {c : Expr} {a b : List Stmt} {fc : M Bool} {f g : M Fl} (hc : PT X c (tFB C fc)) (ha : PSs X a (tFS C f)) (hb : PSs X b (tFS C g)) : PS X (.If c a b pos) (tFS C (ifS fc f g)) := imS (ps_if hc ha hb) fun Z σ H h => by
  obtain ⟨G, ι, en, k, h⟩ := h
  refine ⟨G, ι, en, k, PX.imp (PS'.bnd h) fun c e1 G1 ι1 H1 u1 k1 q1 => ?_⟩
  cases c with
  | true => exact iteT ⟨G1, ι1, e1, k1, q1⟩
  | false => exact iteF ⟨G1, ι1, e1, k1, q1⟩
end
section
variable {K : PySem.W.Frag} {T : List (Addr × Str)} {G H : Hp} {ι : List Addr} {σ : L2.St} {e : En}
theorem Sls.set {ρ : List (Option D)} {i : Nat} {d : D} {v : V} (s : Sls K G ι σ ρ) (r : RD K G ι d v) : Sls K G ι (σ.set i (some v)) (ρ.set i (some d)) := by
  refine ⟨by rw [List.length_set, List.length_set]; exact s.1, fun j d' hj => ?_⟩
  rw [List.getElem?_set] at hj
  by_cases e : i = j
  · subst e
    rw [if_pos rfl] at hj
    split at hj
    · rename_i hl
      cases hj
      refine ⟨v, ?_, r⟩
      rw [List.getElem?_set, if_pos rfl, if_pos (by rw [s.1]; exact hl)]
    · cases hj
  · rw [if_neg e] at hj
    obtain ⟨w, h1, h2⟩ := s.2 j d' hj
    exact ⟨w, by rw [List.getElem?_set, if_neg e]; exact h1, h2⟩
theorem Ok.set {i : Nat} {d : D} {v : V} (k : Ok K T G ι H σ e) (r : RD K G ι d v) : Ok K T G ι H (σ.set i (some v)) ⟨e.ρ.set i (some d), e.h⟩ := ⟨k.hs, k.sl.set r, k.tb⟩
end
def PT' (C : Ct) (G : Hp) (ι : List Addr) (r : Option En) (Q : L2.St → Hp → Prop) : Prop := match r with
  | some e' => ∀ G' ι' H' σ', Up G ι G' ι' → Ok C.K C.T G' ι' H' σ' e' → Q σ' H'
  | none => False
def tFG (C : Ct) (b : D → En → Option En) : TG := fun v σ H Q => ∃ G ι e d, Ok C.K C.T G ι H σ e ∧ RD C.K G ι d v ∧ PT' C G ι (b d e) Q
def tFGs (C : Ct) (b : List D → En → Option En) : TGs := fun vs σ H Q => ∃ G ι e ds, Ok C.K C.T G ι H σ e ∧ RDs C.K G ι ds vs ∧ PT' C G ι (b ds e) Q
theorem PT'.up {C : Ct} {G G' : Hp} {ι ι' : List Addr} {r : Option En} {Q : L2.St → Hp → Prop} (h : PT' C G ι r Q) (u : Up G ι G' ι') : PT' C G' ι' r Q := by
  cases r with
  | some e' => exact fun G1 ι1 H1 σ1 u1 k => h G1 ι1 H1 σ1 (u.trans u1) k
  | none => exact h
def nilG : List D → En → Option En
  | [], e => some e
  | _, _ => none
def consG (b : D → En → Option En) (bs : List D → En → Option En) : List D → En → Option En
  | d :: ds, e => match b d e with
    | some e' => bs ds e'
    | none => none
  | [], _ => none
def tupG (n : Nat) (bs : List D → En → Option En) : D → En → Option En
  | .tup ds, e => if ds.length = n then bs ds e else none
  | _, _ => none
def lstG (n : Nat) (bs : List D → En → Option En) (d : D) (e : En) : Option En := match lsqOf e.h d with
  | some ds => if ds.length = n then bs ds e else none
  | none => none
section
variable {X : Cx} {C : Ct}
theorem imG {tg : Expr} {t t' : TG} (h : PG X tg t) (i : ∀ v σ H Q, t' v σ H Q → t v σ H Q) : PG X tg t' := ⟨fun pins s σ H v u Q I r q => h.run pins s σ H v u Q I r (i v σ H Q q)⟩
theorem imGs {tg : List Expr} {t t' : TGs} (h : PGs X tg t) (i : ∀ v σ H Q, t' v σ H Q → t v σ H Q) : PGs X tg t' := ⟨fun pins s σ H v u Q I r q => h.run pins s σ H v u Q I r (i v σ H Q q)⟩
theorem g_name {i : Nat} {tg : Expr} (p : PG X tg (gName i)) : PG X tg (tFG C (putS i)) := imG p fun v σ H Q h => by
  obtain ⟨G, ι, en, d, k, r, h⟩ := h
  exact h G ι H _ Up.refl (k.set r)
theorem gs_nil : PGs X [] (tFGs C nilG) := imGs pgs_nil fun vs σ H Q h => by
  obtain ⟨G, ι, en, ds, k, r, h⟩ := h
  cases ds with
  | nil => exact ⟨r.inv_nil, h G ι H σ Up.refl k⟩
  | cons d ds => exact h.elim
theorem gs_cons {ts : List Expr} {b : D → En → Option En} {bs : List D → En → Option En} (p : PGs X ts (gCons (tFG C b) (tFGs C bs))) : PGs X ts (tFGs C (consG b bs)) := imGs p fun vs σ H Q h => by
  obtain ⟨G, ι, en, ds, k, r, h⟩ := h
  cases ds with
  | nil => exact h.elim
  | cons d ds =>
    obtain ⟨v, vs', rfl, r1, r2⟩ := r.inv_cons
    refine ⟨v, vs', rfl, G, ι, en, d, k, r1, ?_⟩
    have h : PT' C G ι (match b d en with
      | some e' => bs ds e'
      | none => none) Q := h
    cases q : b d en with
    | some e' =>
      rw [q] at h
      exact fun G1 ι1 H1 σ1 u1 k1 => ⟨G1, ι1, e', ds, k1, r2.up u1, h.up u1⟩
    | none =>
      rw [q] at h
      exact h
theorem g_tup {tg : Expr} {n : Nat} {bs : List D → En → Option En} (p : PG X tg (gTup C.K n (tFGs C bs))) : PG X tg (tFG C (tupG n bs)) := imG p fun v σ H Q h => by
  obtain ⟨G, ι, en, d, k, r, h⟩ := h
  cases r with
  | tup hh l q =>
    rename_i a vs xs
    have h : PT' C G ι (if xs.length = n then bs xs en else none) Q := h
    split at h
    · rename_i c
      exact ⟨a, vs, rfl, sqT_at (fun o w => k.hs.s _ o w) hh, l.trans c, G, ι, en, xs, k, ⟨l, q⟩, h⟩
    · exact h.elim
  | _ => exact h.elim
theorem s_asg {st : Stmt} {f : M D} {b : D → En → Option En} (p : PS X st (tAsg (tF C f) (tFG C b))) : PS X st (tFS C (setM f b)) := imS p fun Z σ H h => by
  obtain ⟨G, ι, en, k, h⟩ := h
  refine ⟨G, ι, en, k, PX.imp (PS'.bnd h) fun d e1 G1 ι1 H1 u1 k1 q1 v r => ⟨G1, ι1, e1, d, k1, r, ?_⟩⟩
  cases q : b d e1 with
  | some e' =>
    rw [q] at q1
    exact q1
  | none =>
    rw [q] at q1
    exact q1
theorem s_set {st : Stmt} {i : Nat} {f : M D} (p : PS X st (tAsg (tF C f) (gName i))) : PS X st (tFS C (setM f (putS i))) := imS p fun Z σ H h => by
  obtain ⟨G, ι, en, k, h⟩ := h
  exact ⟨G, ι, en, k, PX.imp (PS'.bnd h) fun d e1 G1 ι1 H1 u1 k1 q1 v r => q1 G1 ι1 H1 _ Up.refl (k1.set r)⟩
/-- a, b = e1, e2 -/
def parM (i j : Nat) (f : M (List D)) : M Fl := bnd f fun ds e => match ds with
  | [x, y] => .ok .nx ⟨(e.ρ.set i (some x)).set j (some y), e.h⟩
  | _ => .stuck
def augM (i : Nat) (g : List Ob → D → D → Option D) (f : M D) : M Fl := bnd (eV i) fun x => bnd f fun y => bnd (lft fun h => g h x y) fun d e => .ok .nx ⟨e.ρ.set i (some d), e.h⟩
theorem s_aug {st : Stmt} {i : Nat} {r : TIp} {g : List Ob → D → D → Option D} {f : M D} (s : Op2 C.K r g) (p : PS X st (tAug i (tF C f) r)) : PS X st (tFS C (augM i g f)) := imS p fun Z σ H h => by
  obtain ⟨G, ι, en, k, h⟩ := h
  have h2 : PX C G ι σ (eV i en) fun a e' G' ι' _ => PS' C Z G' ι' ((bnd f fun y => bnd (lft fun h => g h a y) fun d e => .ok .nx ⟨e.ρ.set i (some d), e.h⟩) e') := PS'.bnd h
  unfold eV at h2
  split at h2
  · rename_i d hd
    obtain ⟨v, h1, h3⟩ := k.sl.2 i d hd
    refine ⟨v, h1, G, ι, en, k, PX.imp (PS'.bnd (h2.now k)) fun y e1 G1 ι1 H1 u1 k1 q1 w rw => ?_⟩
    obtain ⟨z, hz, q⟩ := (PS'.bnd (σ := σ) q1).lft
    exact s G1 ι1 H1 e1.h d y z v w _ k1.hs (h3.up u1) rw hz fun G' H' t g1 s1 hs r => by
      have k2 := k1.grow g1 s1 hs
      have q2 := q G' ι1 H' ⟨g1, List.prefix_refl _⟩ k2
      exact q2 G' ι1 H' _ Up.refl (k2.set r)
  · exact h2.elim
/-- what a for walks: items that stay -/
structure ItF (K : PySem.W.Frag) (G : Hp) (ι : List Addr) (J : It) (ds : List D) : Prop where
  go : ∀ (G' : Hp) (ι' : List Addr) (H : Hp) (h : List Ob), Up G ι G' ι' → Hs K G' ι' H h → ∀ (i : Nat) d, ds[i]? = some d → J.go i H ∧ ∀ x H', J.yld i H x H' → ∃ G'', Same G' G'' ∧ Same H H' ∧ Hs K G'' ι' H' h ∧ RD K G'' ι' d x
  stop : ∀ (G' : Hp) (ι' : List Addr) (H : Hp) (h : List Ob), Up G ι G' ι' → Hs K G' ι' H h → J.stop ds.length H
theorem ItF.up {K : PySem.W.Frag} {G G' : Hp} {ι ι' : List Addr} {J : It} {ds : List D} (a : ItF K G ι J ds) (u : Up G ι G' ι') : ItF K G' ι' J ds :=
  ⟨fun G2 ι2 H h u2 s i d e => a.go G2 ι2 H h (u.trans u2) s i d e, fun G2 ι2 H h u2 s => a.stop G2 ι2 H h (u.trans u2) s⟩
def tFI (C : Ct) (f : M (List D)) : TI := fun σ H R => ∃ G ι e, Ok C.K C.T G ι H σ e ∧ PX C G ι σ (f e) fun ds _ G' ι' H' => ∀ J, ItF C.K G' ι' J ds → R J H'
def forL (b : D → En → Option En) (body : M Fl) : List D → M Fl
  | [], e => .ok .nx e
  | d :: ds, e => match b d e with
    | some e1 => match body e1 with
      | .ok .nx e2 => forL b body ds e2
      | .ok .ct e2 => forL b body ds e2
      | .ok .bk e2 => .ok .nx e2
      | r => r
    | none => .stuck
def forM (fi : M (List D)) (b : D → En → Option En) (body : M Fl) : M Fl := bnd fi fun ds => forL b body ds
theorem s_for {st : Stmt} {fi : M (List D)} {b : D → En → Option En} {body : M Fl} (p : PS X st (tFor (tFI C fi) (tFG C b) (tFS C body))) : PS X st (tFS C (forM fi b body)) := imS p fun Z σ H h => by
  obtain ⟨G, ι, en, k, h⟩ := h
  refine ⟨G, ι, en, k, PX.imp (PS'.bnd h) fun ds e1 G1 ι1 H1 u1 k1 q1 J hJ => ?_⟩
  let W : Nat → Nat → L2.St → Hp → Prop := fun i m σ H => ∃ G ι e, Up G1 ι1 G ι ∧ Ok C.K C.T G ι H σ e ∧ i ≤ ds.length ∧ m = ds.length - i ∧ PS' C Z G ι (forL b body (ds.drop i) e)
  refine ⟨W, ⟨ds.length, G1, ι1, e1, Up.refl, k1, Nat.zero_le _, rfl, q1⟩, ?_⟩
  rintro i m σ2 H2 ⟨G2, ι2, en2, u2, k2, hi, hm, q2⟩
  by_cases hlt : i < ds.length
  · refine .inr ?_
    have hd : ds[i]? = some ds[i] := List.getElem?_eq_getElem hlt
    obtain ⟨hgo, hy⟩ := (hJ.up u2).go G2 ι2 H2 en2.h Up.refl k2.hs i _ hd
    refine ⟨hgo, fun σ' H' => ∃ m', m' < m ∧ W (i + 1) m' σ' H', fun _ _ z => z, fun x H3 y => ?_⟩
    obtain ⟨G3, g3, s3, hs3, r3⟩ := hy x H3 y
    have k3 := k2.grow g3 s3 hs3
    have u3 : Up G2 ι2 G3 ι2 := ⟨g3, List.prefix_refl _⟩
    rw [List.drop_eq_getElem_cons hlt] at q2
    have q2 : PS' C Z G2 ι2 (match b ds[i] en2 with
      | some e1 => match body e1 with
        | .ok .nx e2 => forL b body (ds.drop (i + 1)) e2
        | .ok .ct e2 => forL b body (ds.drop (i + 1)) e2
        | .ok .bk e2 => .ok .nx e2
        | r => r
      | none => .stuck) := q2
    refine ⟨G3, ι2, en2, ds[i], k3, r3, ?_⟩
    cases qb : b ds[i] en2 with
    | none =>
      rw [qb] at q2
      exact q2
    | some e4 =>
      rw [qb] at q2
      intro G4 ι4 H4 σ4 u4 k4
      refine ⟨G4, ι4, e4, k4, ?_⟩
      have q2 := q2.up (u3.trans u4)
      have again : ∀ e5, PS' C Z G4 ι4 (forL b body (ds.drop (i + 1)) e5) → ∀ G5 ι5 H5 σ5, Up G4 ι4 G5 ι5 → Ok C.K C.T G5 ι5 H5 σ5 e5 → ∃ m', m' < m ∧ W (i + 1) m' σ5 H5 := fun e5 z G5 ι5 H5 σ5 u5 k5 =>
        ⟨ds.length - (i + 1), by omega, G5, ι5, e5, ((u2.trans u3).trans u4).trans u5, k5, hlt, rfl, z.up u5⟩
      dsimp only at q2
      cases qq : body e4 with
      | ok a e5 =>
        rw [qq] at q2
        cases a with
        | nx => exact again e5 q2
        | ct => exact again e5 q2
        | bk => exact q2
        | rt d => exact q2
      | ex x fs e5 =>
        rw [qq] at q2
        exact q2
      | stuck =>
        rw [qq] at q2
        exact q2
  · refine .inl ?_
    have hz : i = ds.length := by omega
    subst hz
    rw [List.drop_length] at q2
    exact ⟨(hJ.up u2).stop G2 ι2 H2 en2.h Up.refl k2.hs, q2 G2 ι2 H2 σ2 Up.refl k2⟩
/-- while, with so much fuel -/
def whM (c : M Bool) (body : M Fl) : Nat → M Fl
  | 0, _ => .stuck
  | n + 1, e => match c e with
    | .ok true e1 => match body e1 with
      | .ok .nx e2 => whM c body n e2
      | .ok .ct e2 => whM c body n e2
      | .ok .bk e2 => .ok .nx e2
      | r => r
    | .ok false e1 => .ok .nx e1
    | .ex x fs e1 => .ex x fs e1
    | .stuck => .stuck
theorem s_while {st : Stmt} {c : M Bool} {body : M Fl} (n : Nat) (p : PS X st (tWhile (tFB C c) (tFS C body))) : PS X st (tFS C (whM c body n)) := imS p fun Z σ H h => by
  obtain ⟨G, ι, en, k, h⟩ := h
  let W : Nat → L2.St → Hp → Prop := fun m σ H => ∃ G ι e, Ok C.K C.T G ι H σ e ∧ PS' C Z G ι (whM c body m e)
  refine ⟨W, ⟨n, G, ι, en, k, h⟩, ?_⟩
  rintro m σ2 H2 ⟨G2, ι2, en2, k2, q2⟩
  cases m with
  | zero => exact q2.elim
  | succ m =>
    have q2 : PS' C Z G2 ι2 (match c en2 with
      | .ok true e1 => match body e1 with
        | .ok .nx e2 => whM c body m e2
        | .ok .ct e2 => whM c body m e2
        | .ok .bk e2 => .ok .nx e2
        | r => r
      | .ok false e1 => .ok .nx e1
      | .ex x fs e1 => .ex x fs e1
      | .stuck => .stuck) := q2
    refine ⟨G2, ι2, en2, k2, ?_⟩
    cases qc : c en2 with
    | ok t e3 =>
      rw [qc] at q2
      intro G3 ι3 H3 u3 k3
      cases t with
      | false => exact iteF (q2 G3 ι3 H3 σ2 u3 k3)
      | true =>
        refine iteT ⟨fun σ' H' => ∃ m', m' < m + 1 ∧ W m' σ' H', fun _ _ z => z, G3, ι3, e3, k3, ?_⟩
        have q2 := q2.up u3
        have again : ∀ e5, PS' C Z G3 ι3 (whM c body m e5) → ∀ G5 ι5 H5 σ5, Up G3 ι3 G5 ι5 → Ok C.K C.T G5 ι5 H5 σ5 e5 → ∃ m', m' < m + 1 ∧ W m' σ5 H5 := fun e5 z G5 ι5 H5 σ5 u5 k5 =>
          ⟨m, Nat.lt_succ_self _, G5, ι5, e5, k5, z.up u5⟩
        dsimp only at q2
        cases qq : body e3 with
        | ok a e5 =>
          rw [qq] at q2
          cases a with
          | nx => exact again e5 q2
          | ct => exact again e5 q2
          | bk => exact q2
          | rt d => exact q2
        | ex x fs e5 =>
          rw [qq] at q2
          exact q2
        | stuck =>
          rw [qq] at q2
          exact q2
    | ex x fs e3 =>
      rw [qc] at q2
      exact fun G3 ι3 H3 dd u3 k3 z => q2 G3 ι3 H3 σ2 dd u3 k3 z
    | stuck =>
      rw [qc] at q2
      exact q2
end
end Fv
set_option Elab.async false
set_option linter.all false
set_option maxRecDepth 100000
set_option maxHeartbeats 4000000
set_option autoImplicit false
namespace Fv
open PySem PySem.Spec PyProof.Rows L2 Bm
inductive Rs where
  | ok (d : D) (h : List Ob) | ex (x : Str) (fs : List (Str × D)) (h : List Ob) | stuck
abbrev Fun := List D → List Ob → Rs
def PR (K : PySem.W.Frag) (T : List (Addr × Str)) (G : Hp) (ι : List Addr) (r : Rs) (Q : VK) (E : XK) : Prop := match r with
  | .ok d h' => ∀ G' ι' H' v, Up G ι G' ι' → Hs K G' ι' H' h' → LamX.Tabs T H' → RD K G' ι' d v → Q v H'
  | .ex x fs h' => ∀ G' ι' H' dd, Up G ι G' ι' → Hs K G' ι' H' h' → LamX.Tabs T H' → XOk K G' ι' H' fs dd → E (.ref (He.ga K x)) dd H'
  | .stuck => False
def spF (K : PySem.W.Frag) (n : Nat) (Φ : Fun) : Sp := fun vs H Q E => vs.length = n ∧ ∃ T G ι h ds, LamX.Tabs T H ∧ Hs K G ι H h ∧ RDs K G ι ds vs ∧ PR K T G ι (Φ ds h) Q E
def callM (Φ : Fun) (dds : List D) (fa : M (List D)) : M D := bnd fa fun ds e => match Φ (ds ++ dds) e.h with
  | .ok d h' => .ok d ⟨e.ρ, h'⟩
  | .ex x fs h' => .ex x fs ⟨e.ρ, h'⟩
  | .stuck => .stuck
section
variable {X : Cx} {C : Ct} {e : Expr}
theorem PX.call {Φ : Fun} {ds : List D} {en : En} {G H : Hp} {ι : List Addr} {σ : L2.St} {Q : VK} (k : Ok C.K C.T G ι H σ en)
    (h : PX C G ι σ (match Φ ds en.h with
      | .ok d h' => .ok d ⟨en.ρ, h'⟩
      | .ex x fs h' => .ex x fs ⟨en.ρ, h'⟩
      | .stuck => .stuck : Res D) fun d _ G' ι' H' => ∀ v, RD C.K G' ι' d v → Q v H') : PR C.K C.T G ι (Φ ds en.h) Q (WE C.W σ) := by
  cases q : Φ ds en.h with
  | ok d h' =>
    rw [q] at h
    exact fun G' ι' H' v u s t r => h G' ι' H' u ⟨s, k.sl.up u, t⟩ v r
  | ex x fs h' =>
    rw [q] at h
    exact fun G' ι' H' dd u s t z => h G' ι' H' dd u ⟨s, k.sl.up u, t⟩ z
  | stuck =>
    rw [q] at h
    exact h
theorem v_call {n : Nat} {Φ : Fun} {dds : List D} {dvs : List V} {fa : M (List D)} (hd : ∀ G ι, RDs C.K G ι dds dvs) (hn : ∀ en ds e', fa en = .ok ds e' → (ds ++ dds).length = n) (p : PE X e (tCallSD (spF C.K n Φ) dvs (WE C.W) (tFA C fa))) : PE X e (tF C (callM Φ dds fa)) := imE p fun σ H Q h => by
  obtain ⟨G, ι, en, k, h⟩ := h
  have hx := h.bnd
  refine ⟨G, ι, en, k, ?_⟩
  cases q : fa en with
  | ok ds e1 =>
    rw [q] at hx
    intro G1 ι1 H1 u1 k1 vs r
    have rr := r.append (hd G1 ι1)
    refine ⟨rr.1.trans (hn _ _ _ q), C.T, G1, ι1, e1.h, ds ++ dds, k1.tb, k1.hs, rr, PX.call k1 (hx G1 ι1 H1 u1 k1)⟩
  | ex x fs e1 =>
    rw [q] at hx
    exact hx
  | stuck =>
    rw [q] at hx
    exact hx
end
theorem bnd_ok {α β : Type} {f : M α} {g : α → M β} {en e' : En} {b : β} (h : bnd f g en = .ok b e') : ∃ a e1, f en = .ok a e1 ∧ g a e1 = .ok b e' := by
  unfold bnd at h
  cases q : f en with
  | ok a e1 =>
    rw [q] at h
    exact ⟨a, e1, rfl, h⟩
  | ex x fs e1 =>
    rw [q] at h
    cases h
  | stuck =>
    rw [q] at h
    cases h
/-- lengths of written arguments -/
def LenM (n : Nat) (f : M (List D)) : Prop := ∀ en ds e', f en = .ok ds e' → ds.length = n
theorem len_nil : LenM 0 nilM := fun en ds e' h => by cases h; rfl
theorem len_cons {n : Nat} {f : M D} {g : M (List D)} (h : LenM n g) : LenM (n + 1) (consM f g) := fun en ds e' q => by
  obtain ⟨x, e1, h1, q⟩ := bnd_ok q
  obtain ⟨xs, e2, h2, q⟩ := bnd_ok q
  cases q
  rw [List.length_cons, h _ _ _ h2]
theorem len_app {n m : Nat} {f : M (List D)} (h : LenM n f) {dds : List D} (e : n + dds.length = m) : ∀ en ds e', f en = .ok ds e' → (ds ++ dds).length = m := fun en ds e' q => by
  rw [List.length_append, h _ _ _ q, e]
def start0 (nN : Nat) (ds : List D) : List (Option D) := ds.map some ++ List.replicate (nN - ds.length) none
def defF (nN : Nat) (f : M Fl) : Fun := fun ds h => match f ⟨start0 nN ds, h⟩ with
  | .ok (.rt d) e => .ok d e.h
  | .ok .nx e => .ok .non e.h
  | .ex x fs e => .ex x fs e.h
  | _ => .stuck
theorem sls_start {K : PySem.W.Frag} {G : Hp} {ι : List Addr} {N : List Str} {ds : List D} {vs : List V} (r : RDs K G ι ds vs) : Sls K G ι (L2.start N vs) (start0 N.length ds) := by
  unfold L2.start start0
  refine ⟨by rw [List.length_append, List.length_append, List.length_map, List.length_map, List.length_replicate, List.length_replicate, r.1], fun i d h => ?_⟩
  by_cases hl : i < ds.length
  · rw [List.getElem?_append_left (by rw [List.length_map]; exact hl), List.getElem?_map] at h
    obtain ⟨d', h1, h2⟩ := Option.map_eq_some_iff.mp h
    cases h2
    obtain ⟨v, h3, h4⟩ := r.get h1
    refine ⟨v, ?_, h4⟩
    rw [List.getElem?_append_left (by rw [List.length_map, r.1]; exact hl), List.getElem?_map, h3]
    rfl
  · rw [List.getElem?_append_right (by rw [List.length_map]; omega), List.getElem?_replicate] at h
    split at h
    · cases h
    · cases h
section
variable {P : Program} {w : World} {K : PySem.W.Frag} {mg : Str → Option Value} {base : Heap} {x qual : Str} {params : Arguments} {body : List Stmt} {scope : Scope} {dvs : List V} {kws : List (Str × V)} {f : Addr} {fd : FuncData}
theorem def_end {C : Ct} {nN : Nat} {b : M Fl} {Q : VK} {E : XK} {G : Hp} {ι : List Addr} {ds : List D} {h : List Ob} (hW : ∀ c d σ H, E c d H → C.W c d σ H) (p : PR C.K C.T G ι (defF nN b ds h) Q E) : PS' C { nx := fun _ H' => Q .non H', rt := Q } G ι (b ⟨start0 nN ds, h⟩) := by
  unfold defF at p
  cases q : b ⟨start0 nN ds, h⟩ with
  | ok a e1 =>
    rw [q] at p
    cases a with
    | nx => exact fun G' ι' H' σ' u k => p G' ι' H' .non u k.hs k.tb .non
    | rt d => exact fun G' ι' H' σ' v u k r => p G' ι' H' v u k.hs k.tb r
    | bk => exact p.elim
    | ct => exact p.elim
  | ex x fs e1 =>
    rw [q] at p
    exact fun G' ι' H' σ' dd u k z => hW _ _ _ _ (p G' ι' H' dd u k.hs k.tb z)
  | stuck =>
    rw [q] at p
    exact p
/-- a def keeps what its body computes -/
theorem okF {N ps : List Str} {k : Nat} {b : M Fl} (F : FunD K x qual params body scope dvs kws f fd) (S : FnScope N ps scope)
    (hbody : ∀ (cdv : Value) (A : Around) (outer : List Env) (s : Shared) (H : Hp) (E : XK) (T : List (Addr × Str)), Room k (A.deeper (envOfC qual scope s.heap.objs.size f cdv)) →
      PSs (cxOf (L2.CX P w) P w K mg base N qual scope f cdv A outer s H E) body (tFS ⟨K, T, fun c d _ H' => E c d H'⟩ b)) : FnOk P w K mg base (L2.CX P w) (k + 1) f fd ps (spF K ps.length (defF N.length b)) := by
  refine F.ok S (fun vs H Q E h => h.1) (fun cdv A outer s H vs Q E hr h => ?_)
  obtain ⟨hl, T, G, ι, hp, ds, ht, hs, r, p⟩ := h
  exact ⟨_, hbody cdv A outer s H E T hr, G, ι, ⟨start0 N.length ds, hp⟩, ⟨hs, sls_start r, ht⟩, def_end (C := ⟨K, T, fun c d _ H' => E c d H'⟩) (fun _ _ _ _ z => z) p⟩
end
mutual
/-- no thing from n on -/
def low (n : Nat) : D → Bool
  | .ref k => decide (k < n)
  | .tup xs => lows n xs
  | .lst xs => lows n xs
  | .scr xs => lows n xs
  | .clo _ xs => lows n xs
  | .cla _ _ _ _ _ xs => lows n xs
  | .dic _ xs => lows n xs
  | .obj _ _ xs => lows n xs
  | _ => true
def lows (n : Nat) : List D → Bool
  | [] => true
  | x :: xs => low n x && lows n xs
end
def lowO (n : Nat) : Ob → Bool
  | .lst xs => lows n xs
  | .dic _ xs => lows n xs
  | .ins _ fs => lows n (fs.map (·.2))
  | .td _ _ => true
def mapO (go : D → Option D) : List D → Option (List D)
  | [] => some []
  | x :: xs => match go x, mapO go xs with
    | some y, some ys => some (y :: ys)
    | _, _ => none
mutual
/-- things from n on stay as they are now; go: what stands within them -/
def fzW (go : D → Option D) (h : List Ob) (n : Nat) : D → Option D
  | .ref k => if k < n then some (.ref k) else match h[k]? with
    | some (.lst xs) => (mapO go xs).map .lst
    | some (.dic ks xs) => (mapO go xs).map (.dic ks)
    | some (.ins c fs) => (mapO go (fs.map (·.2))).map (.obj c (fs.map (·.1)))
    | some (.td _ _) => none
    | none => none
  | .tup xs => (fzs go h n xs).map .tup
  | .lst xs => (fzs go h n xs).map .lst
  | .scr xs => (fzs go h n xs).map .scr
  | .dic ks xs => (fzs go h n xs).map (.dic ks)
  | .obj c ns xs => (fzs go h n xs).map (.obj c ns)
  | .non => some .non
  | .bl b => some (.bl b)
  | .int i => some (.int i)
  | .str x => some (.str x)
  | .typ t => some (.typ t)
  | .nd ks => some (.nd ks)
  | .fn k p => some (.fn k p)
  | .clo k xs => (fzs go h n xs).map (.clo k)
  | .cla k a cl c ws xs => (fzs go h n xs).map (.cla k a cl c ws)
def fzs (go : D → Option D) (h : List Ob) (n : Nat) : List D → Option (List D)
  | [] => some []
  | x :: xs => match fzW go h n x, fzs go h n xs with
    | some y, some ys => some (y :: ys)
    | _, _ => none
end
def fzN (h : List Ob) (n : Nat) : Nat → D → Option D
  | 0 => fun _ => none
  | m + 1 => fzW (fzN h n m) h n
abbrev fz (h : List Ob) (n : Nat) : D → Option D := fzN h n 5
def Drops (h h' : List Ob) : Prop := ∀ k o, k < h.length → h'[k]? = some o → h[k]? = some o ∨ lowO h.length o = true
open Classical in
noncomputable def finF (Φ : Fun) : Fun := fun ds h => match Φ ds h with
  | .ok d h' => if Drops h h' ∧ h.length ≤ h'.length then match fz h' h.length d with
      | some d' => .ok d' (h'.take h.length)
      | none => .stuck
    else .stuck
  | .ex x fs h' => if Drops h h' ∧ h.length ≤ h'.length ∧ lows h.length (fs.map (·.2)) = true then .ex x fs (h'.take h.length) else .stuck
  | .stuck => .stuck
section
variable {K : PySem.W.Frag} {G G2 H : Hp} {ι ι2 : List Addr} {h : List Ob} {n : Nat}
theorem lows_get {xs : List D} (l : lows n xs = true) {i : Nat} {d : D} (e : xs[i]? = some d) : low n d = true := by
  induction xs generalizing i with
  | nil => simp at e
  | cons x xs ih =>
    unfold lows at l
    rw [Bool.and_eq_true] at l
    cases i with
    | zero =>
      obtain rfl : x = d := by simpa using e
      exact l.1
    | succ i => exact ih l.2 (by simpa using e)
theorem RD.low {d : D} {v : V} (r : RD K G ι d v) (g : Same G G2) (i : ∀ (k : Nat) a, k < n → ι[k]? = some a → ι2[k]? = some a) (l : Fv.low n d = true) : RD K G2 ι2 d v := by
  induction r with
  | non => exact .non
  | bl b => exact .bl b
  | int i => exact .int i
  | str x => exact .str x
  | tup hh ll q ih =>
    unfold Fv.low at l
    exact .tup (sqT_at (fun o q => g _ o q) hh) ll fun j d v a b => ih j d v a b (lows_get l a)
  | lst hh ll q ih =>
    unfold Fv.low at l
    exact .lst (g _ _ hh) ll fun j d v a b => ih j d v a b (lows_get l a)
  | scr hh ll q ih =>
    unfold Fv.low at l
    exact .scr (g.seq hh) ll fun j d v a b => ih j d v a b (lows_get l a)
  | dic hh hk ll q ih =>
    unfold Fv.low at l
    exact .dic (g _ _ hh) hk ll fun j d v a b => ih j d v a b (lows_get l a)
  | ref hh =>
    unfold Fv.low at l
    exact .ref (i _ _ (of_decide_eq_true l) hh)
  | obj hh hk ll q ih =>
    unfold Fv.low at l
    exact .obj (g _ _ hh) hk ll fun j d v a b => ih j d v a b (lows_get l a)
  | typ t => exact .typ t
  | nd hh => exact .nd (g _ _ hh)
  | fn hh hc hd => exact .fn (g _ _ hh) (g _ _ hc) (hd.same g)
  | clo hh hc ll q ih =>
    unfold Fv.low at l
    exact .clo (g _ _ hh) (g _ _ hc) ll fun j d v a b => ih j d v a b (lows_get l a)
  | cla hh hc ll q ih =>
    unfold Fv.low at l
    exact .cla (g _ _ hh) (g _ _ hc) ll fun j d v a b => ih j d v a b (lows_get l a)
theorem RDs.low {xs : List D} {vs : List V} (r : RDs K G ι xs vs) (g : Same G G2) (i : ∀ (k : Nat) a, k < n → ι[k]? = some a → ι2[k]? = some a) (l : lows n xs = true) : RDs K G2 ι2 xs vs :=
  ⟨r.1, fun j d v a b => (r.2 j d v a b).low g i (lows_get l a)⟩
theorem fzs_get {go : D → Option D} {xs ys : List D} (e : fzs go h n xs = some ys) : ys.length = xs.length ∧ ∀ (i : Nat) d', ys[i]? = some d' → ∃ d, xs[i]? = some d ∧ fzW go h n d = some d' := by
  induction xs generalizing ys with
  | nil =>
    unfold fzs at e
    cases e
    exact ⟨rfl, fun i d' z => by simp at z⟩
  | cons x xs ih =>
    unfold fzs at e
    split at e
    · rename_i y ys' h1 h2
      cases e
      obtain ⟨a1, a2⟩ := ih h2
      refine ⟨by rw [List.length_cons, List.length_cons, a1], fun i d' z => ?_⟩
      cases i with
      | zero =>
        obtain rfl : y = d' := by simpa using z
        exact ⟨x, rfl, h1⟩
      | succ i =>
        obtain ⟨d, b1, b2⟩ := a2 i d' (by simpa using z)
        exact ⟨d, by simpa using b1, b2⟩
    · cases e
theorem mapO_get {go : D → Option D} {xs ys : List D} (e : mapO go xs = some ys) : ys.length = xs.length ∧ ∀ (i : Nat) d', ys[i]? = some d' → ∃ d, xs[i]? = some d ∧ go d = some d' := by
  induction xs generalizing ys with
  | nil =>
    unfold mapO at e
    cases e
    exact ⟨rfl, fun i d' z => by simp at z⟩
  | cons x xs ih =>
    unfold mapO at e
    split at e
    · rename_i y ys' h1 h2
      cases e
      obtain ⟨a1, a2⟩ := ih h2
      refine ⟨by rw [List.length_cons, List.length_cons, a1], fun i d' z => ?_⟩
      cases i with
      | zero =>
        obtain rfl : y = d' := by simpa using z
        exact ⟨x, rfl, h1⟩
      | succ i =>
        obtain ⟨d, b1, b2⟩ := a2 i d' (by simpa using z)
        exact ⟨d, by simpa using b1, b2⟩
    · cases e
/-- all that was made since stays as it is now -/
theorem RD.fzW {go : D → Option D} {d d' : D} {v : V} (s : Hs K G ι H h) (g : Same G G2) (g2 : ∀ (k : Nat) a, n ≤ k → ι[k]? = some a → G2 a = H a) (i : ∀ (k : Nat) a, k < n → ι[k]? = some a → ι2[k]? = some a)
    (hgo : ∀ d d' v, RD K G ι d v → go d = some d' → RD K G2 ι2 d' v) (r : RD K G ι d v) (e : Fv.fzW go h n d = some d') : RD K G2 ι2 d' v := by
  have all : ∀ {xs ys : List D} {vs : List V}, fzs go h n xs = some ys → vs.length = xs.length → (∀ (i : Nat) d v, xs[i]? = some d → vs[i]? = some v → ∀ {d'}, Fv.fzW go h n d = some d' → RD K G2 ι2 d' v) → RDs K G2 ι2 ys vs := fun {xs ys vs} e l ih => by
    obtain ⟨a1, a2⟩ := fzs_get e
    refine ⟨by rw [l, a1], fun j d' v hj hv => ?_⟩
    obtain ⟨d, b1, b2⟩ := a2 j d' hj
    exact ih j d v b1 hv b2
  have deep : ∀ {xs ys : List D} {vs : List V}, mapO go xs = some ys → RDs K G ι xs vs → RDs K G2 ι2 ys vs := fun {xs ys vs} e r => by
    obtain ⟨a1, a2⟩ := mapO_get e
    refine ⟨by rw [r.1, a1], fun j d' v hj hv => ?_⟩
    obtain ⟨d, b1, b2⟩ := a2 j d' hj
    exact hgo d d' v (r.2 j d v b1 hv) b2
  induction r generalizing d' with
  | non => unfold Fv.fzW at e; cases e; exact .non
  | bl b => unfold Fv.fzW at e; cases e; exact .bl b
  | int i => unfold Fv.fzW at e; cases e; exact .int i
  | str x => unfold Fv.fzW at e; cases e; exact .str x
  | tup hh ll q ih =>
    unfold Fv.fzW at e
    obtain ⟨ys, e1, rfl⟩ := Option.map_eq_some_iff.mp e
    exact .tup' (sqT_at (fun o q => g _ o q) hh) (all e1 ll fun j d v a b {d'} z => ih j d v a b z)
  | lst hh ll q ih =>
    unfold Fv.fzW at e
    obtain ⟨ys, e1, rfl⟩ := Option.map_eq_some_iff.mp e
    exact .lst' (g _ _ hh) (all e1 ll fun j d v a b {d'} z => ih j d v a b z)
  | scr hh ll q ih =>
    unfold Fv.fzW at e
    obtain ⟨ys, e1, rfl⟩ := Option.map_eq_some_iff.mp e
    have a := all e1 ll fun j d v a b {d'} z => ih j d v a b z
    exact .scr (g.seq hh) a.1 a.2
  | @dic a kvs ks ds hh hk ll q ih =>
    unfold Fv.fzW at e
    obtain ⟨ys, e1, rfl⟩ := Option.map_eq_some_iff.mp e
    obtain ⟨a1, a2⟩ := fzs_get e1
    refine .dic (g _ _ hh) hk (by rw [a1]; exact ll) fun j d' kv hj hv => ?_
    obtain ⟨d, b1, b2⟩ := a2 j d' hj
    exact ih j d kv b1 hv b2
  | @obj a dx gs c ns ds hh hk ll q ih =>
    unfold Fv.fzW at e
    obtain ⟨ys, e1, rfl⟩ := Option.map_eq_some_iff.mp e
    obtain ⟨a1, a2⟩ := fzs_get e1
    refine .obj (g _ _ hh) hk (by rw [a1]; exact ll) fun j d' kv hj hv => ?_
    obtain ⟨d, b1, b2⟩ := a2 j d' hj
    exact ih j d kv b1 hv b2
  | @ref k a hh =>
    unfold Fv.fzW at e
    split at e
    · rename_i hk
      cases e
      exact .ref (i _ _ hk hh)
    · rename_i hk
      have gh := g2 k a (by omega) hh
      split at e
      · rename_i xs hx
        obtain ⟨ys, e1, rfl⟩ := Option.map_eq_some_iff.mp e
        obtain ⟨vs, b1, b2⟩ := s.cell hh hx
        exact .lst' (gh.trans b1) (deep e1 b2)
      · rename_i ks xs hx
        obtain ⟨ys, e1, rfl⟩ := Option.map_eq_some_iff.mp e
        obtain ⟨kvs, b1, b2, b3⟩ := s.cell hh hx
        have b4 := deep e1 b3
        exact .dic (gh.trans b1) b2 (by have := b4.1; simpa using this) fun j d kv hj hv => b4.2 j d kv.2 hj (by rw [List.getElem?_map, hv]; rfl)
      · rename_i c fs hx
        obtain ⟨ys, e1, rfl⟩ := Option.map_eq_some_iff.mp e
        obtain ⟨dx, gs, b1, b2, b3⟩ := s.cell hh hx
        have b4 := deep e1 b3
        exact .obj (gh.trans b1) b2 (by have := b4.1; simpa using this) fun j d kv hj hv => b4.2 j d kv.2 hj (by rw [List.getElem?_map, hv]; rfl)
      · cases e
      · cases e
  | typ t => unfold Fv.fzW at e; cases e; exact .typ t
  | nd hh => unfold Fv.fzW at e; cases e; exact .nd (g _ _ hh)
  | fn hh hc hd => unfold Fv.fzW at e; cases e; exact .fn (g _ _ hh) (g _ _ hc) (hd.same g)
  | clo hh hc ll q ih =>
    unfold Fv.fzW at e
    obtain ⟨ys, e1, rfl⟩ := Option.map_eq_some_iff.mp e
    have a := all e1 ll fun j d v a b {d'} z => ih j d v a b z
    exact .clo (g _ _ hh) (g _ _ hc) a.1 a.2
  | cla hh hc ll q ih =>
    unfold Fv.fzW at e
    obtain ⟨ys, e1, rfl⟩ := Option.map_eq_some_iff.mp e
    have a := all e1 ll fun j d v a b {d'} z => ih j d v a b z
    exact .cla (g _ _ hh) (g _ _ hc) a.1 a.2
theorem RD.fzN {m : Nat} {d d' : D} {v : V} (s : Hs K G ι H h) (g : Same G G2) (g2 : ∀ (k : Nat) a, n ≤ k → ι[k]? = some a → G2 a = H a) (i : ∀ (k : Nat) a, k < n → ι[k]? = some a → ι2[k]? = some a) (r : RD K G ι d v) (e : Fv.fzN h n m d = some d') : RD K G2 ι2 d' v := by
  induction m generalizing d d' v with
  | zero => cases e
  | succ m ih => exact r.fzW s g g2 i (fun _ _ _ r e => ih r e) e
theorem RD.fz {d d' : D} {v : V} (s : Hs K G ι H h) (g : Same G G2) (g2 : ∀ (k : Nat) a, n ≤ k → ι[k]? = some a → G2 a = H a) (i : ∀ (k : Nat) a, k < n → ι[k]? = some a → ι2[k]? = some a) (r : RD K G ι d v) (e : Fv.fz h n d = some d') : RD K G2 ι2 d' v := r.fzN s g g2 i e
theorem lows_of {xs : List D} (ih : ∀ (i : Nat) d, xs[i]? = some d → Fv.low n d = true) : lows n xs = true := by
  induction xs with
  | nil => unfold lows; rfl
  | cons x xs ihl =>
    unfold lows
    rw [ih 0 x rfl, Bool.true_and]
    exact ihl fun i d e => ih (i + 1) d (by simpa using e)
theorem RD.isLow {d : D} {v : V} (r : RD K G ι d v) : Fv.low ι.length d = true := by
  have one : ∀ {α : Type} {xs : List D} {vs : List α}, vs.length = xs.length → ∀ {i : Nat} {d : D}, xs[i]? = some d → ∃ v, vs[i]? = some v := fun {α xs vs} l {i d} e => by
    have hl : i < vs.length := by
      rw [l]
      exact (List.getElem?_eq_some_iff.mp e).1
    exact ⟨vs[i], List.getElem?_eq_getElem hl⟩
  induction r with
  | tup hh ll q ih =>
    unfold Fv.low
    exact lows_of fun j d a => let ⟨v, b⟩ := one ll a; ih j d v a b
  | lst hh ll q ih =>
    unfold Fv.low
    exact lows_of fun j d a => let ⟨v, b⟩ := one ll a; ih j d v a b
  | scr hh ll q ih =>
    unfold Fv.low
    exact lows_of fun j d a => let ⟨v, b⟩ := one ll a; ih j d v a b
  | clo hh hc ll q ih =>
    unfold Fv.low
    exact lows_of fun j d a => let ⟨v, b⟩ := one ll a; ih j d v a b
  | cla hh hc ll q ih =>
    unfold Fv.low
    exact lows_of fun j d a => let ⟨v, b⟩ := one ll a; ih j d v a b
  | dic hh hk ll q ih =>
    unfold Fv.low
    exact lows_of fun j d a => let ⟨v, b⟩ := one ll a; ih j d v a b
  | obj hh hk ll q ih =>
    unfold Fv.low
    exact lows_of fun j d a => let ⟨v, b⟩ := one ll a; ih j d v a b
  | ref hh =>
    unfold Fv.low
    exact decide_eq_true (List.getElem?_eq_some_iff.mp hh).1
  | _ => unfold Fv.low; rfl
theorem RDs.isLow {xs : List D} {vs : List V} (r : RDs K G ι xs vs) : lows ι.length xs = true := lows_of fun i d e => by
  obtain ⟨v, _, q⟩ := r.get e
  exact q.isLow
theorem ObOk.isLow {a : Addr} {o : Ob} (r : ObOk K G ι H a o) : lowO ι.length o = true := by
  cases o with
  | lst xs =>
    obtain ⟨vs, _, q⟩ := r
    exact q.isLow
  | dic ks xs =>
    obtain ⟨vs, _, _, q⟩ := r
    exact q.isLow
  | ins c fs =>
    obtain ⟨dx, vs, _, _, q⟩ := r
    exact q.isLow
  | td w ks => rfl
theorem ObOk.low {a : Addr} {o : Ob} {H2 : Hp} (r : ObOk K G ι H a o) (g : Same G G2) (i : ∀ (k : Nat) a, k < n → ι[k]? = some a → ι2[k]? = some a) (l : lowO n o = true) (e : H2 a = H a) : ObOk K G2 ι2 H2 a o := by
  cases o with
  | lst xs =>
    obtain ⟨vs, h1, q⟩ := r
    exact ⟨vs, e.trans h1, q.low g i l⟩
  | dic ks xs =>
    obtain ⟨vs, h1, h2, q⟩ := r
    exact ⟨vs, e.trans h1, h2, q.low g i l⟩
  | ins c fs =>
    obtain ⟨dx, vs, h1, h2, q⟩ := r
    exact ⟨dx, vs, e.trans h1, h2, q.low g i l⟩
  | td w ks =>
    obtain ⟨xs, h1, h2, h3⟩ := r
    exact ⟨xs, e.trans h1, h2, fun x m => (h3 x m).same g⟩
/-- the heap in which what was made since stays -/
def stayG (G H : Hp) (l : List Addr) : Hp := fun a => if a ∈ l then H a else G a
theorem Hs.drop {h0 : List Ob} {ι0 : List Addr} {G0 H0 : Hp} (s : Hs K G ι H h) (s0 : Hs K G0 ι0 H0 h0) (u : Up G0 ι0 G ι) (d : Drops h0 h) (hl : h0.length ≤ h.length) :
    Same G (stayG G H (ι.drop h0.length)) ∧ Hs K (stayG G H (ι.drop h0.length)) ι0 H (h.take h0.length) ∧ (∀ (k : Nat) a, h0.length ≤ k → ι[k]? = some a → stayG G H (ι.drop h0.length) a = H a) ∧ (∀ (k : Nat) a, k < h0.length → ι[k]? = some a → ι0[k]? = some a) := by
  obtain ⟨t, rfl⟩ := u.i
  have hd : (ι0 ++ t).drop h0.length = t := by rw [← s0.len, List.drop_left]
  rw [hd]
  have g : Same G (stayG G H t) := fun a o e => by
    unfold stayG
    split
    · exact s.s _ _ e
    · exact e
  have i1 : ∀ (k : Nat) a, k < h0.length → (ι0 ++ t)[k]? = some a → ι0[k]? = some a := fun k a hk e => by
    rw [List.getElem?_append_left (by rw [s0.len]; exact hk)] at e
    exact e
  have nt : ∀ a, a ∈ ι0 → a ∉ t := fun a ha hb => (List.nodup_append.mp s.nd).2.2 a ha a hb rfl
  refine ⟨g, ⟨fun a o e => ?_, s0.nd, by rw [List.length_take, s0.len]; omega, fun a ha => ?_, fun a ps e => ?_, fun k a o hk ho => ?_⟩, fun k a hk e => ?_, i1⟩
  · unfold stayG at e
    split at e
    · exact e
    · exact s.s _ _ e
  · unfold stayG
    rw [if_neg (nt a ha)]
    exact s.g a (List.mem_append.mpr (.inl ha))
  · unfold stayG at e
    split at e
    · rename_i ht
      obtain ⟨j, hj⟩ := List.getElem?_of_mem (List.mem_append.mpr (.inr ht) : a ∈ ι0 ++ t)
      have hlt : j < h.length := by
        rw [← s.len]
        exact (List.getElem?_eq_some_iff.mp hj).1
      obtain ⟨ho, o1, o2⟩ := (s.ob j a h[j] hj (List.getElem?_eq_getElem hlt)).has
      rw [o1] at e
      exact o2 ps (Option.some.inj e)
    · exact s.nt a ps e
  · have hk0 : k < h0.length := by
      rw [← s0.len]
      exact (List.getElem?_eq_some_iff.mp hk).1
    rw [List.getElem?_take, if_pos hk0] at ho
    have hkk : (ι0 ++ t)[k]? = some a := by
      rw [List.getElem?_append_left (by rw [s0.len]; exact hk0)]
      exact hk
    have ob := s.ob k a o hkk ho
    have lo : lowO h0.length o = true := by
      rcases d k o hk0 ho with q | q
      · rw [← s0.len]
        exact (s0.ob k a o hk q).isLow
      · exact q
    exact ObOk.low ob g i1 lo rfl
  · unfold stayG
    have : a ∈ t := by
      rw [List.getElem?_append_right (by rw [s0.len]; exact hk)] at e
      exact List.mem_of_getElem? e
    rw [if_pos this]
theorem lookup_at {fs : List (Str × D)} {f : Str} {x : D} (hx : fs.lookup f = some x) : ∃ i : Nat, (fs.map (·.2))[i]? = some x := by
  induction fs with
  | nil => cases hx
  | cons pr fs ih =>
    obtain ⟨m, y⟩ := pr
    rw [List.lookup_cons] at hx
    split at hx
    · cases hx
      exact ⟨0, rfl⟩
    · obtain ⟨i, hi⟩ := ih hx
      exact ⟨i + 1, by simpa using hi⟩
/-- from all that a def leaves to what callers look at -/
theorem imFin {n : Nat} {Φ : Fun} (vs : List V) (H : Hp) (Q : VK) (E : XK) (h : spF K n (finF Φ) vs H Q E) : spF K n Φ vs H Q E := by
  obtain ⟨hl, T, G, ι, hp, ds, ht, hs, r, p⟩ := h
  refine ⟨hl, T, G, ι, hp, ds, ht, hs, r, ?_⟩
  unfold finF at p
  cases q : Φ ds hp with
  | ok d h' =>
    rw [q] at p
    dsimp only at p
    split at p
    · rename_i c
      split at p
      · rename_i d' hd
        intro G' ι' H' v u s t rr
        obtain ⟨a1, a2, a3, a4⟩ := s.drop hs u c.1 c.2
        exact p _ ι H' v ⟨u.g.trans a1, List.prefix_refl _⟩ a2 t (rr.fz s a1 a3 a4 hd)
      · exact p.elim
    · exact p.elim
  | ex x fs h' =>
    rw [q] at p
    dsimp only at p
    split at p
    · rename_i c
      intro G' ι' H' dd u s t z
      obtain ⟨a1, a2, a3, a4⟩ := s.drop hs u c.1 c.2.1
      refine p _ ι H' dd ⟨u.g.trans a1, List.prefix_refl _⟩ a2 t ?_
      rcases z with z | ⟨z1, d, gs, z2, z3, z4⟩
      · exact .inl z
      · refine .inr ⟨z1, d, gs, z2, z3, fun f x hx => ?_⟩
        obtain ⟨v, b1, b2⟩ := z4 f x hx
        refine ⟨v, b1, b2.low a1 a4 ?_⟩
        have hm := lookup_at hx
        obtain ⟨i, hi⟩ := hm
        exact lows_get c.2.2 hi
    · exact p.elim
  | stuck =>
    rw [q] at p
    exact p
end
theorem fin_ok {Φ : Fun} {ds : List D} {h h' g : List Ob} {d d' : D} (e : Φ ds h = .ok d h') (dr : Drops h h') (hl : h.length ≤ h'.length) (ht : h'.take h.length = g) (hz : fz h' h.length d = some d') : finF Φ ds h = .ok d' g := by
  unfold finF
  rw [e]
  dsimp only
  rw [if_pos ⟨dr, hl⟩, hz, ht]
theorem fin_ex {Φ : Fun} {ds : List D} {h h' g : List Ob} {x : Str} {fs : List (Str × D)} (e : Φ ds h = .ex x fs h') (dr : Drops h h') (hl : h.length ≤ h'.length) (ht : h'.take h.length = g) (hz : lows h.length (fs.map (·.2)) = true) : finF Φ ds h = .ex x fs g := by
  unfold finF
  rw [e]
  dsimp only
  rw [if_pos ⟨dr, hl, hz⟩, ht]
theorem drops_app {h t : List Ob} : Drops h (h ++ t) := fun k o hk e => .inl (by rw [List.getElem?_append_left hk] at e; exact e)
end Fv
set_option Elab.async false
set_option linter.all false
set_option maxRecDepth 100000
set_option maxHeartbeats 4000000
set_option autoImplicit false
namespace Fv
open PySem PySem.Spec PyProof.Rows L2 Bm
def stayOf : D → Option (List D)
  | .lst xs => some xs
  | .tup xs => some xs
  | .scr xs => some xs
  | _ => none
section
variable {K : PySem.W.Frag} {G H : Hp} {ι : List Addr} {h : List Ob}
theorem stay_rd {d : D} {v : V} {xs : List D} (r : RD K G ι d v) (e : stayOf d = some xs) : ∃ a vs, v = .ref a ∧ SqA K G a vs ∧ RDs K G ι xs vs := by
  cases r with
  | lst hh l q =>
    cases e
    exact ⟨_, _, rfl, .inl (SqL.of hh), l, q⟩
  | tup hh l q =>
    cases e
    exact ⟨_, _, rfl, .inr hh, l, q⟩
  | scr hh l q =>
    cases e
    exact ⟨_, _, rfl, .inl hh, l, q⟩
  | _ => cases e
theorem itL {a : Addr} {vs : List V} {xs : List D} (hq : SqL K G a vs) (r : RDs K G ι xs vs) : ItF K G ι (Itl K a) xs := by
  refine ⟨fun G' ι' H h u s i d e => ?_, fun G' ι' H h u s => ⟨vs, s.s.seq (u.g.seq hq), by rw [r.1]; exact Nat.le_refl _⟩⟩
  obtain ⟨v, h1, h2⟩ := r.get e
  have hs := s.s.seq (u.g.seq hq)
  refine ⟨⟨vs, v, hs, h1⟩, fun x H' y => ?_⟩
  obtain ⟨rfl, y⟩ := y
  have e2 := y vs hs
  rw [h1] at e2
  cases e2
  exact ⟨G', Same.refl _, Same.refl _, s, h2.up u⟩
theorem itT {a : Addr} {vs : List V} {xs : List D} (hq : SqT K G a vs) (r : RDs K G ι xs vs) : ItF K G ι (Itt K a) xs := by
  have up : ∀ {G' : Hp} {ι' : List Addr} {H : Hp} {h : List Ob}, Up G ι G' ι' → Hs K G' ι' H h → SqT K H a vs := fun u s => sqT_at (fun o z => s.s _ o z) (sqT_at (fun o z => u.g _ o z) hq)
  refine ⟨fun G' ι' H h u s i d e => ?_, fun G' ι' H h u s => ⟨vs, up u s, by rw [r.1]; exact Nat.le_refl _⟩⟩
  obtain ⟨v, h1, h2⟩ := r.get e
  refine ⟨⟨vs, v, up u s, h1⟩, fun x H' y => ?_⟩
  obtain ⟨rfl, y⟩ := y
  have e2 := y vs (up u s)
  rw [h1] at e2
  cases e2
  exact ⟨G', Same.refl _, Same.refl _, s, h2.up u⟩
def rangeL (lo : Int) (n : Nat) : List D := (List.range n).map fun i => .int (lo + (i : Nat))
theorem itR {lo : Int} {n : Nat} : ItF K G ι (Itr lo n) (rangeL lo n) := by
  refine ⟨fun G' ι' H h u s i d e => ?_, fun G' ι' H h u s => ?_⟩
  · unfold rangeL at e
    rw [List.getElem?_map] at e
    obtain ⟨j, e1, rfl⟩ := Option.map_eq_some_iff.mp e
    have hi : i < n := by
      have := (List.getElem?_eq_some_iff.mp e1).1
      simpa using this
    rw [List.getElem?_range hi] at e1
    cases e1
    refine ⟨hi, fun x H' y => ?_⟩
    obtain ⟨rfl, rfl⟩ := y
    exact ⟨G', Same.refl _, Same.refl _, s, .int _⟩
  · show n ≤ (rangeL lo n).length
    unfold rangeL
    simp
def rangeC (lo c : Int) (n : Nat) : List D := (List.range n).map fun i => .int (lo + (i : Nat) * c)
/-- (0, x), (1, y), .. -/
def enumL (xs : List D) : List D := xs.mapIdx fun i x => .tup [.int (i : Nat), x]
theorem new_pair {G' : Hp} {ι' : List Addr} {T : Addr} {u v : V} {x y : D} (s : Hs K G' ι' H h) (n : H T = none) (r1 : RD K G' ι' x u) (r2 : RD K G' ι' y v) :
    ∃ G'', Same G' G'' ∧ Same H (upd H T (.tup [u, v])) ∧ Hs K G'' ι' (upd H T (.tup [u, v])) h ∧ RD K G'' ι' (.tup [x, y]) (.ref T) := by
  have g := s.same_new (o := .tup [u, v]) n
  have up : Up G' ι' (upd G' T (.tup [u, v])) ι' := ⟨g, List.prefix_refl _⟩
  exact ⟨_, g, Same.new n, s.new n, .tup' (SqT.of upd_same) (.cons (r1.up up) (.one (r2.up up)))⟩
theorem itEL {a : Addr} {vs : List V} {xs : List D} (hq : SqL K G a vs) (r : RDs K G ι xs vs) : ItF K G ι (Ite K a) (enumL xs) := by
  refine ⟨fun G' ι' H h u s i d e => ?_, fun G' ι' H h u s => ⟨vs, s.s.seq (u.g.seq hq), by rw [r.1]; unfold enumL; simp⟩⟩
  unfold enumL at e
  rw [List.getElem?_mapIdx] at e
  obtain ⟨x, e1, rfl⟩ := Option.map_eq_some_iff.mp e
  obtain ⟨v, h1, h2⟩ := r.get e1
  have hs := s.s.seq (u.g.seq hq)
  refine ⟨⟨vs, v, hs, h1⟩, fun z H' y => ?_⟩
  obtain ⟨T, x', rfl, n, rfl, y⟩ := y
  have e2 := y vs hs
  rw [h1] at e2
  cases e2
  exact new_pair s n (.int _) (h2.up u)
theorem itET {a : Addr} {vs : List V} {xs : List D} (hq : SqT K G a vs) (r : RDs K G ι xs vs) : ItF K G ι (IteT K a) (enumL xs) := by
  have up : ∀ {G' : Hp} {ι' : List Addr} {H : Hp} {h : List Ob}, Up G ι G' ι' → Hs K G' ι' H h → SqT K H a vs := fun u s => sqT_at (fun o z => s.s _ o z) (sqT_at (fun o z => u.g _ o z) hq)
  refine ⟨fun G' ι' H h u s i d e => ?_, fun G' ι' H h u s => ⟨vs, up u s, by rw [r.1]; unfold enumL; simp⟩⟩
  unfold enumL at e
  rw [List.getElem?_mapIdx] at e
  obtain ⟨x, e1, rfl⟩ := Option.map_eq_some_iff.mp e
  obtain ⟨v, h1, h2⟩ := r.get e1
  refine ⟨⟨vs, v, up u s, h1⟩, fun z H' y => ?_⟩
  obtain ⟨T, x', rfl, n, rfl, y⟩ := y
  have e2 := y vs (up u s)
  rw [h1] at e2
  cases e2
  exact new_pair s n (.int _) (h2.up u)
def zipL (xs ys : List D) : List D := (xs.zip ys).map fun p => .tup [p.1, p.2]
end
def seqI (f : M D) : M (List D) := bnd f fun d => lft fun _ => stayOf d
def rng1 (f : M (List D)) : M (List D) := bnd f fun ds => lft fun _ => match ds with
  | [.int j] => if -(2 ^ 62) ≤ j ∧ j < 2 ^ 62 then some (rangeL 0 j.toNat) else none
  | _ => none
def rng2 (f : M (List D)) : M (List D) := bnd f fun ds => lft fun _ => match ds with
  | [.int i, .int j] => if -(2 ^ 62) ≤ i ∧ i < 2 ^ 62 ∧ -(2 ^ 62) ≤ j ∧ j < 2 ^ 62 then some (rangeL i (j - i).toNat) else none
  | _ => none
def enumI (f : M (List D)) : M (List D) := bnd f fun ds => lft fun _ => match ds with
  | [d] => (stayOf d).map enumL
  | _ => none
def zipI (f : M (List D)) : M (List D) := bnd f fun ds => lft fun _ => match ds with
  | [.lst xs, .lst ys] => some (zipL xs ys)
  | _ => none
section
variable {X : Cx} {C : Ct} {tg it : Expr}
theorem imI {t t' : TI} (h : PI X tg it t) (i : ∀ σ H R, t' σ H R → t σ H R) : PI X tg it t' := ⟨fun pins s σ H R I q => h.run pins s σ H R I (i σ H R q)⟩
theorem i_seq {f : M D} (p : PI X tg it (iSeq C.K (tF C f))) : PI X tg it (tFI C (seqI f)) := imI p fun σ H R h => by
  obtain ⟨G, ι, en, k, h⟩ := h
  refine ⟨G, ι, en, k, PX.imp h.bnd fun d e1 G1 ι1 H1 u1 k1 q1 v r => ?_⟩
  obtain ⟨ds, hd, q⟩ := q1.lft
  obtain ⟨a, vs, rfl, h1, h2⟩ := stay_rd r hd
  refine ⟨a, rfl, ?_⟩
  rcases h1 with h1 | h1
  · exact .inl ⟨⟨vs, k1.hs.s.seq h1⟩, q.now k1 _ (itL h1 h2)⟩
  · exact .inr ⟨⟨vs, sqT_at (fun o z => k1.hs.s _ o z) h1⟩, q.now k1 _ (itT h1 h2)⟩
theorem i_rng1 {f : M (List D)} (p : PI X tg it (iRng1 (tFA C f))) : PI X tg it (tFI C (rng1 f)) := imI p fun σ H R h => by
  obtain ⟨G, ι, en, k, h⟩ := h
  refine ⟨G, ι, en, k, PX.imp h.bnd fun ds e1 G1 ι1 H1 u1 k1 q1 vs r => ?_⟩
  obtain ⟨xs, hd, q⟩ := q1.lft
  split at hd
  · rename_i j
    split at hd
    · rename_i c
      cases hd
      obtain ⟨v, rfl, r1⟩ := r.one_of
      cases r1
      exact ⟨j, rfl, c.1, c.2, q.now k1 _ itR⟩
    · cases hd
  · cases hd
theorem i_enum {f : M (List D)} (p : PI X tg it (iEnumA C.K (tFA C f))) : PI X tg it (tFI C (enumI f)) := imI p fun σ H R h => by
  obtain ⟨G, ι, en, k, h⟩ := h
  refine ⟨G, ι, en, k, PX.imp h.bnd fun ds e1 G1 ι1 H1 u1 k1 q1 vs r => ?_⟩
  obtain ⟨xs, hd, q⟩ := q1.lft
  split at hd
  · rename_i d
    obtain ⟨v, rfl, r1⟩ := r.one_of
    obtain ⟨ys, hy, rfl⟩ := Option.map_eq_some_iff.mp hd
    obtain ⟨a, us, rfl, h1, h2⟩ := stay_rd r1 hy
    refine ⟨a, us, rfl, ?_⟩
    rcases h1 with h1 | h1
    · exact .inl ⟨k1.hs.s.seq h1, q.now k1 _ (itEL h1 h2)⟩
    · exact .inr ⟨sqT_at (fun o z => k1.hs.s _ o z) h1, q.now k1 _ (itET h1 h2)⟩
  · cases hd
end
def putN (is : List Nat) (ds : List D) (ρ : List (Option D)) : List (Option D) := match is, ds with
  | i :: is, d :: ds => putN is ds (ρ.set i (some d))
  | _, _ => ρ
def setN (is : List Nat) (vs : List V) (σ : L2.St) : L2.St := match is, vs with
  | i :: is, v :: vs => setN is vs (σ.set i (some v))
  | _, _ => σ
def gNames : List Nat → TGs
  | [] => gNil
  | i :: is => gCons (gName i) (gNames is)
theorem gNames_ok {is : List Nat} {vs : List V} {σ : L2.St} {H : Hp} {Q : L2.St → Hp → Prop} (l : vs.length = is.length) (q : Q (setN is vs σ) H) : gNames is vs σ H Q := by
  induction is generalizing vs σ with
  | nil =>
    cases vs with
    | nil => exact ⟨rfl, q⟩
    | cons v vs => cases l
  | cons i is ih =>
    cases vs with
    | nil => cases l
    | cons v vs => exact ⟨v, vs, rfl, ih (by simpa using l) q⟩
def wipeD (ρ : List (Option D)) : List Nat → List (Option D)
  | [] => ρ
  | v :: vs => (wipeD ρ vs).set v none
theorem wipe_set {i : Nat} {x : Option V} : ∀ {vs : List Nat} {σ : L2.St}, i ∈ vs → wipe (σ.set i x) vs = wipe σ vs
  | v :: vs, σ, h => by
    unfold wipe
    by_cases e : i ∈ vs
    · rw [wipe_set e]
    · obtain rfl : i = v := by
        rcases List.mem_cons.mp h with h | h
        · exact h
        · exact absurd h e
      have : wipe (σ.set i x) vs = (wipe σ vs).set i x := wipe_out e
      rw [this, List.set_set]
where
  wipe_out {i : Nat} {x : Option V} : ∀ {vs : List Nat} {σ : L2.St}, i ∉ vs → wipe (σ.set i x) vs = (wipe σ vs).set i x
    | [], σ, _ => rfl
    | v :: vs, σ, h => by
      unfold wipe
      have hne : i ≠ v := fun z => h (by rw [z]; exact List.mem_cons_self)
      rw [wipe_out (fun z => h (List.mem_cons_of_mem _ z)), List.set_comm _ _ hne]
theorem wipe_idem {vs : List Nat} {σ : L2.St} : wipe (wipe σ vs) vs = wipe σ vs := by
  have gen : ∀ (us : List Nat) (τ : L2.St), (∀ u ∈ us, u ∈ vs) → wipe (wipe τ us) vs = wipe τ vs := fun us => by
    induction us with
    | nil => intro τ _; rfl
    | cons u us ih =>
      intro τ h
      show wipe ((wipe τ us).set u none) vs = _
      rw [wipe_set (h u List.mem_cons_self)]
      exact ih τ fun w hw => h w (List.mem_cons_of_mem _ hw)
  exact gen vs σ fun _ h => h
theorem wipe_setN {vs : List Nat} : ∀ {is : List Nat} {us : List V} {σ : L2.St}, (∀ i ∈ is, i ∈ vs) → wipe (setN is us σ) vs = wipe σ vs
  | [], _, _, _ => by unfold setN; rfl
  | i :: is, [], _, _ => rfl
  | i :: is, u :: us, σ, h => by
    unfold setN
    rw [wipe_setN (fun j hj => h j (List.mem_cons_of_mem _ hj)), wipe_set (h i List.mem_cons_self)]
section
variable {K : PySem.W.Frag} {T : List (Addr × Str)} {G H : Hp} {ι : List Addr} {h : List Ob} {σ : L2.St}
theorem Sls.none {ρ : List (Option D)} {i : Nat} (s : Sls K G ι σ ρ) : Sls K G ι (σ.set i none) (ρ.set i none) := by
  refine ⟨by rw [List.length_set, List.length_set]; exact s.1, fun j d' hj => ?_⟩
  rw [List.getElem?_set] at hj
  by_cases e : i = j
  · subst e
    rw [if_pos rfl] at hj
    split at hj <;> cases hj
  · rw [if_neg e] at hj
    obtain ⟨w, h1, h2⟩ := s.2 j d' hj
    exact ⟨w, by rw [List.getElem?_set, if_neg e]; exact h1, h2⟩
theorem Sls.wipe {ρ : List (Option D)} (s : Sls K G ι σ ρ) : ∀ vs, Sls K G ι (L2.wipe σ vs) (wipeD ρ vs)
  | [] => s
  | v :: vs => (Sls.wipe s vs).none
theorem Sls.setN : ∀ {is : List Nat} {ds : List D} {vs : List V} {σ : L2.St} {ρ : List (Option D)}, Sls K G ι σ ρ → RDs K G ι ds vs → Sls K G ι (Fv.setN is vs σ) (putN is ds ρ)
  | [], ds, vs, σ, ρ, s, r => by unfold Fv.setN putN; exact s
  | i :: is, [], vs, σ, ρ, s, r => by
    rw [r.inv_nil]
    unfold Fv.setN putN
    exact s
  | i :: is, d :: ds, vs, σ, ρ, s, r => by
    obtain ⟨v, vs', rfl, r1, r2⟩ := r.inv_cons
    unfold Fv.setN putN
    exact Sls.setN (s.set r1) r2
end
/-- the target of a comprehension: one name, or a tuple of names -/
inductive Tg where
  | one (i : Nat) | tup (is : List Nat) | two (i : Nat) (js : List Nat)
def Tg.slots : Tg → List Nat
  | .one i => [i]
  | .tup is => is
  | .two i js => i :: js
def Tg.g (K : PySem.W.Frag) : Tg → TG
  | .one i => gName i
  | .tup is => gTup K is.length (gNames is)
  | .two i js => gTup K 2 (gCons (gName i) (gCons (gTup K js.length (gNames js)) gNil))
def Tg.put : Tg → D → List (Option D) → Option (List (Option D))
  | .one i, d, ρ => some (ρ.set i (some d))
  | .tup is, .tup ds, ρ => if ds.length = is.length then some (putN is ds ρ) else none
  | .tup _, _, _ => none
  | .two i js, .tup [d, .tup ds], ρ => if ds.length = js.length then some (putN js ds (ρ.set i (some d))) else none
  | .two _ _, _, _ => none
/-- the turns; n: the number of the list that is made -/
def lcL (t : Tg) (tt : M Bool) (f : M D) (ρ : List (Option D)) (n : Nat) : List D → List Ob → Option (List Ob)
  | [], h => some h
  | d :: ds, h => match t.put d ρ with
    | none => none
    | some ρ1 => match tt ⟨ρ1, h⟩ with
      | .ok true e2 => match f e2 with
        | .ok y e3 => match e3.h[n]? with
          | some (.lst acc) => if acc.length < 1000000 then lcL t tt f ρ n ds (e3.h.set n (.lst (acc ++ [y]))) else none
          | _ => none
        | _ => none
      | .ok false e2 => lcL t tt f ρ n ds e2.h
      | _ => none
/-- the list is a thing from now on -/
def lcP (t : Tg) (vs : List Nat) (fi : M (List D)) (tt : M Bool) (f : M D) : M D := bnd fi fun ds e => match lcL t tt f (wipeD e.ρ vs) e.h.length ds (e.h ++ [.lst []]) with
  | some h' => .ok (.ref e.h.length) ⟨e.ρ, h'⟩
  | none => .stuck
def Ct.nox (C : Ct) : Ct := ⟨C.K, C.T, fun _ _ _ _ => False⟩
theorem Hs.set {K : PySem.W.Frag} {G H : Hp} {ι : List Addr} {h : List Ob} {k : Nat} {a : Addr} {o : Ob} {ho : HO} (s : Hs K G ι H h) (hk : ι[k]? = some a) (q : ObOk K G ι (upd H a ho) a o) : Hs K G ι (upd H a ho) (h.set k o) := by
  have ga : G a = none := s.g a (List.mem_of_getElem? hk)
  refine ⟨fun b y z => ?_, s.nd, by rw [List.length_set]; exact s.len, s.g, s.nt, fun j b y hj hy => ?_⟩
  · have : b ≠ a := fun e => by
      rw [e, ga] at z
      cases z
    rw [upd_ne this]
    exact s.s _ _ z
  · rw [List.getElem?_set] at hy
    by_cases e : k = j
    · subst e
      rw [if_pos rfl] at hy
      split at hy
      · cases hy
        rw [hk] at hj
        cases hj
        exact q
      · cases hy
    · rw [if_neg e] at hy
      have : b ≠ a := fun z => by
        subst z
        exact e ((List.getElem_inj (i := k) (j := j) (h₀ := (List.getElem?_eq_some_iff.mp hk).1) (h₁ := (List.getElem?_eq_some_iff.mp hj).1) s.nd).mp (by
          rw [(List.getElem?_eq_some_iff.mp hk).2, (List.getElem?_eq_some_iff.mp hj).2]))
      exact (s.ob j b y hj hy).up Up.refl (upd_ne this)
theorem tabs_upd {T : List (Addr × Str)} {H : Hp} {a : Addr} {o o' : HO} (t : LamX.Tabs T H) (h : H a = some o) (h1 : ∀ ps, o ≠ .tbl ps) (h2 : ∀ φ, o ≠ .ext φ) : LamX.Tabs T (upd H a o') := fun q hq => by
  obtain ⟨ps, a1, a2, a3⟩ := t q hq
  refine ⟨ps, ?_, a2, fun pos cv hc => ?_⟩
  · rw [upd_ne (fun z => by rw [z, h] at a1; exact h1 _ (Option.some.inj a1))]
    exact a1
  · obtain ⟨c', e1, e2⟩ := a3 pos cv hc
    refine ⟨c', e1, ?_⟩
    rw [upd_ne (fun z => by rw [z, h] at e2; unfold LamX.CodeO at e2; exact h2 _ (Option.some.inj e2))]
    exact e2
theorem tabs_upd2 {T : List (Addr × Str)} {H : Hp} {a : Addr} {o o' : HO} (t : LamX.Tabs T H) (h : H a = some o) (h1 : ∀ ps, o ≠ .tbl ps) (h2 : ∀ c q, o ≠ LamX.CodeO c q) : LamX.Tabs T (upd H a o') := fun q hq => by
  obtain ⟨ps, a1, a2, a3⟩ := t q hq
  refine ⟨ps, ?_, a2, fun pos cv hc => ?_⟩
  · rw [upd_ne (fun z => by rw [z, h] at a1; exact h1 _ (Option.some.inj a1))]
    exact a1
  · obtain ⟨c', e1, e2⟩ := a3 pos cv hc
    refine ⟨c', e1, ?_⟩
    rw [upd_ne (fun z => by rw [z, h] at e2; exact h2 _ _ (Option.some.inj e2))]
    exact e2
theorem tupD_ne {w : World} {a c : Addr} {xs : List (NestedKey × Addr)} {q : Str} : HO.ext (TupD w a xs) ≠ LamX.CodeO c q := fun e => by
  unfold LamX.CodeO at e
  have e := HO.ext.inj e
  have at_ : ∀ (k : Nat), k < a + c + 1 → Heap.get? { objs := Array.replicate (a + c + 1) { cls := .none, data := .fields #[.none, .str q 0] } } k = some { cls := .none, data := .fields #[.none, .str q 0] } := fun k hk => by
    unfold Heap.get?
    simp [hk]
  have y : TupD w a xs { objs := Array.replicate (a + c + 1) { cls := .none, data := .fields #[.none, .str q 0] } } := by
    rw [e]
    exact ⟨_, _, _, at_ c (by omega), rfl, rfl⟩
  obtain ⟨_, _, o, es, ep, _, _, g, _, d, _⟩ := y
  rw [at_ a (by omega)] at g
  cases g
  cases d
theorem imLcP {C : Ct} {t : Tg} {vs : List Nat} {fi : M (List D)} {tt : M Bool} {f : M D} (hv : ∀ i ∈ t.slots, i ∈ vs) (σ : L2.St) (H : Hp) (Q : VK) (h : tF C (lcP t vs fi tt f) σ H Q) : tLc (tFI C fi) (t.g C.K) (tFB C.nox tt) (tF C.nox f) vs σ H Q := by
  obtain ⟨G, ι, en, k, h⟩ := h
  refine ⟨G, ι, en, k, PX.imp h.bnd fun ds e1 G1 ι1 H1 u1 k1 q1 J hJ Dd nD => ?_⟩
  have mD := k1.hs.not_mem nD
  have gD := k1.hs.gnone nD
  have kt : Ok C.K C.T G1 ι1 (upd H1 Dd (.lst [])) σ e1 := k1.temp nD
  have k0 := kt.pub gD mD (x := .lst []) ⟨[], upd_same, .nil⟩
  have u0 : Up G1 ι1 G1 (ι1 ++ [Dd]) := up_snoc
  have hn : e1.h.length = ι1.length := k1.hs.len.symm
  have hat : (ι1 ++ [Dd])[e1.h.length]? = some Dd := by
    rw [hn, List.getElem?_append_right (Nat.le_refl _), Nat.sub_self]
    rfl
  let W : Nat → Nat → Hp → Prop := fun i m H => ∃ G ι h, Up G1 (ι1 ++ [Dd]) G ι ∧ Hs C.K G ι H h ∧ LamX.Tabs C.T H ∧ i ≤ ds.length ∧ m = ds.length - i ∧ PX C G ι σ (match lcL t tt f (wipeD e1.ρ vs) e1.h.length (ds.drop i) h with
    | some h' => .ok (D.ref e1.h.length) ⟨e1.ρ, h'⟩
    | none => .stuck) fun d _ G' ι' H' => ∀ v, RD C.K G' ι' d v → Q v H'
  refine ⟨W, ⟨ds.length, G1, ι1 ++ [Dd], e1.h ++ [.lst []], Up.refl, k0.hs, k0.tb, Nat.zero_le _, rfl, PX.up q1 u0⟩, ?_⟩
  rintro i m H2 ⟨G2, ι2, h2, u2, s2, t2, hi, hm, q2⟩
  have hD : ι2[e1.h.length]? = some Dd := pre_get u2.i hat
  by_cases hlt : i < ds.length
  · refine .inr ?_
    have hd : ds[i]? = some ds[i] := List.getElem?_eq_getElem hlt
    obtain ⟨hgo, hy⟩ := (hJ.up (u0.trans u2)).go G2 ι2 H2 h2 Up.refl s2 i _ hd
    refine ⟨hgo, fun H' => ∃ m', m' < m ∧ W (i + 1) m' H', fun _ z => z, fun x H3 y => ?_⟩
    obtain ⟨G3, g3, s3, hs3, r3⟩ := hy x H3 y
    have u3 : Up G2 ι2 G3 ι2 := ⟨g3, List.prefix_refl _⟩
    rw [List.drop_eq_getElem_cons hlt] at q2
    unfold lcL at q2
    generalize ds[i] = d at q2 r3
    have slw : Sls C.K G3 ι2 (wipe σ vs) (wipeD e1.ρ vs) := (k1.sl.up ((u0.trans u2).trans u3)).wipe vs
    have step : ∀ {σ2 : L2.St} {ρ1 : List (Option D)}, wipe σ2 vs = wipe σ vs → Sls C.K G3 ι2 σ2 ρ1 → PX C G3 ι2 σ (match (match tt ⟨ρ1, h2⟩ with
      | .ok true e2 => match f e2 with
        | .ok y e3 => match e3.h[e1.h.length]? with
          | some (.lst acc) => if acc.length < 1000000 then lcL t tt f (wipeD e1.ρ vs) e1.h.length (ds.drop (i + 1)) (e3.h.set e1.h.length (.lst (acc ++ [y]))) else none
          | _ => none
        | _ => none
      | .ok false e2 => lcL t tt f (wipeD e1.ρ vs) e1.h.length (ds.drop (i + 1)) e2.h
      | _ => none) with
      | some h' => .ok (D.ref e1.h.length) ⟨e1.ρ, h'⟩
      | none => .stuck) (fun d _ G' ι' H' => ∀ v, RD C.K G' ι' d v → Q v H') → wipe σ2 vs = wipe σ vs ∧ tFB C.nox tt σ2 H3 fun b H3 =>
        if b = true then tF C.nox f σ2 H3 fun y H4 => ∃ acc, H4 Dd = some (.lst acc) ∧ acc.length < sizeLine ∧ ∃ m', m' < m ∧ W (i + 1) m' (upd H4 Dd (.lst (acc ++ [y]))) else ∃ m', m' < m ∧ W (i + 1) m' H3 := fun {σ2 ρ1} hw sl p => by
      refine ⟨hw, G3, ι2, ⟨ρ1, h2⟩, ⟨hs3, sl, t2.ext s3⟩, ?_⟩
      cases qt : tt ⟨ρ1, h2⟩ with
      | ok b e4 =>
        rw [qt] at p
        intro G4 ι4 H4 u4 k4
        cases b with
        | false =>
          exact iteF ⟨ds.length - (i + 1), by omega, G4, ι4, e4.h, (u2.trans u3).trans u4, k4.hs, k4.tb, hlt, rfl, PX.up p u4⟩
        | true =>
          refine iteT ⟨G4, ι4, e4, k4, ?_⟩
          dsimp only at p
          cases qf : f e4 with
          | ok y e5 =>
            rw [qf] at p
            intro G5 ι5 H5 u5 k5 v rv
            dsimp only at p
            split at p
            · rename_i h' hh
              split at hh
              · rename_i acc hacc
                split at hh
                · rename_i hlen
                  have hD5 : ι5[e1.h.length]? = some Dd := pre_get ((u3.trans u4).trans u5).i hD
                  obtain ⟨us, o1, o2⟩ := k5.hs.cell hD5 hacc
                  have ob : ObOk C.K G5 ι5 (upd H5 Dd (.lst (us ++ [v]))) Dd (.lst (acc ++ [y])) := ⟨_, upd_same, o2.append (.one rv)⟩
                  refine ⟨us, o1, by rw [o2.1]; exact Nat.lt_of_lt_of_le hlen (by decide), ds.length - (i + 1), by omega, G5, ι5, _, ((u2.trans u3).trans u4).trans u5, k5.hs.set hD5 ob, tabs_upd k5.tb o1 (fun _ z => by cases z) (fun _ z => by cases z), hlt, rfl, ?_⟩
                  rw [hh]
                  exact PX.up p (u4.trans u5)
                · cases hh
              · cases hh
            · exact p.elim
          | ex x fs e5 =>
            rw [qf] at p
            exact p.elim
          | stuck =>
            rw [qf] at p
            exact p.elim
      | ex x fs e4 =>
        rw [qt] at p
        exact p.elim
      | stuck =>
        rw [qt] at p
        exact p.elim
    cases t with
    | one j =>
      show _ ∧ _
      exact step (by rw [wipe_set (hv j List.mem_cons_self), wipe_idem]) (slw.set r3) (PX.up q2 u3)
    | tup is =>
      cases r3 with
      | tup hh ll qq =>
        rename_i a us xs
        have q2 : PX C G2 ι2 σ (match (match (if xs.length = is.length then some (putN is xs (wipeD e1.ρ vs)) else none) with
          | none => none
          | some ρ1 => (match tt ⟨ρ1, h2⟩ with
            | .ok true e2 => match f e2 with
              | .ok y e3 => match e3.h[e1.h.length]? with
                | some (.lst acc) => if acc.length < 1000000 then lcL (.tup is) tt f (wipeD e1.ρ vs) e1.h.length (ds.drop (i + 1)) (e3.h.set e1.h.length (.lst (acc ++ [y]))) else none
                | _ => none
              | _ => none
            | .ok false e2 => lcL (.tup is) tt f (wipeD e1.ρ vs) e1.h.length (ds.drop (i + 1)) e2.h
            | _ => none)) with
          | some h' => .ok (D.ref e1.h.length) ⟨e1.ρ, h'⟩
          | none => .stuck) fun d _ G' ι' H' => ∀ v, RD C.K G' ι' d v → Q v H' := q2
        by_cases hl : xs.length = is.length
        · rw [if_pos hl] at q2
          refine ⟨a, us, rfl, sqT_at (fun o z => hs3.s _ o z) hh, by rw [ll]; exact hl, gNames_ok (by rw [ll]; exact hl) ?_⟩
          exact step (by rw [wipe_setN (is := is) (fun i hi => hv i hi), wipe_idem]) (slw.setN ⟨ll, qq⟩) (PX.up q2 u3)
        · rw [if_neg hl] at q2
          exact q2.elim
      | _ => exact q2.elim
    | two i0 js =>
      cases r3 with
      | tup hh ll qq =>
        rename_i a us xs
        rcases xs with _ | ⟨d1, _ | ⟨d2, _ | ⟨d3, xs⟩⟩⟩
        · exact (show False from q2).elim
        · exact (show False from q2).elim
        · have rr : RDs C.K G3 ι2 [d1, d2] us := ⟨ll, qq⟩
          obtain ⟨v1, us1, rfl, ra, rr1⟩ := rr.inv_cons
          obtain ⟨v2, us3, rfl, rb, rr2⟩ := rr1.inv_cons
          obtain rfl := rr2.inv_nil
          clear rr rr1 rr2 qq
          cases rb with
          | tup hh2 ll2 qq2 =>
            rename_i a2 us2 xs2
            have q2 : PX C G2 ι2 σ (match (match (if xs2.length = js.length then some (putN js xs2 ((wipeD e1.ρ vs).set i0 (some d1))) else none) with
              | none => none
              | some ρ1 => (match tt ⟨ρ1, h2⟩ with
                | .ok true e2 => match f e2 with
                  | .ok y e3 => match e3.h[e1.h.length]? with
                    | some (.lst acc) => if acc.length < 1000000 then lcL (.two i0 js) tt f (wipeD e1.ρ vs) e1.h.length (ds.drop (i + 1)) (e3.h.set e1.h.length (.lst (acc ++ [y]))) else none
                    | _ => none
                  | _ => none
                | .ok false e2 => lcL (.two i0 js) tt f (wipeD e1.ρ vs) e1.h.length (ds.drop (i + 1)) e2.h
                | _ => none)) with
              | some h' => .ok (D.ref e1.h.length) ⟨e1.ρ, h'⟩
              | none => .stuck) fun d _ G' ι' H' => ∀ v, RD C.K G' ι' d v → Q v H' := q2
            by_cases hl : xs2.length = js.length
            · rw [if_pos hl] at q2
              refine ⟨a, _, rfl, sqT_at (fun o z => hs3.s _ o z) hh, rfl, v1, _, rfl, _, _, rfl, ⟨a2, us2, rfl, sqT_at (fun o z => hs3.s _ o z) hh2, by rw [ll2]; exact hl, gNames_ok (by rw [ll2]; exact hl) ⟨rfl, ?_⟩⟩⟩
              exact step (by rw [wipe_setN (is := js) (fun i hi => hv i (List.mem_cons_of_mem _ hi)), wipe_set (hv i0 List.mem_cons_self), wipe_idem]) ((slw.set ra).setN ⟨ll2, qq2⟩) (PX.up q2 u3)
            · rw [if_neg hl] at q2
              exact (show False from q2).elim
          | _ => exact (show False from q2).elim
        · cases d2 <;> exact (show False from q2).elim
      | _ => exact (show False from q2).elim
  · refine .inl ?_
    have hz : i = ds.length := by omega
    subst hz
    rw [List.drop_length] at q2
    have k2 : Ok C.K C.T G2 ι2 H2 σ ⟨e1.ρ, h2⟩ := ⟨s2, k1.sl.up (u0.trans u2), t2⟩
    exact ⟨(hJ.up (u0.trans u2)).stop G2 ι2 H2 h2 Up.refl s2, PX.now (a := D.ref e1.h.length) q2 k2 _ (.ref hD)⟩
end Fv
set_option Elab.async false
set_option linter.all false
set_option maxRecDepth 100000
set_option maxHeartbeats 4000000
set_option autoImplicit false
namespace Fv
open PySem PySem.Spec PyProof.Rows L2 Bm
open Classical in
noncomputable def dropM (f : M D) : M D := fun e => match f e with
  | .ok d e' => if Drops e.h e'.h ∧ e.h.length ≤ e'.h.length ∧ e'.ρ = e.ρ then match fz e'.h e.h.length d with
      | some d' => .ok d' ⟨e.ρ, e'.h.take e.h.length⟩
      | none => .stuck
    else .stuck
  | .ex x fs e' => .ex x fs e'
  | .stuck => .stuck
section
variable {X : Cx} {C : Ct} {e : Expr}
theorem imDrop {f : M D} (σ : L2.St) (H : Hp) (Q : VK) (h : tF C (dropM f) σ H Q) : tF C f σ H Q := by
  obtain ⟨G, ι, en, k, h⟩ := h
  refine ⟨G, ι, en, k, ?_⟩
  unfold dropM at h
  cases q : f en with
  | ok d e' =>
    rw [q] at h
    dsimp only at h
    split at h
    · rename_i c
      split at h
      · rename_i d' hd
        intro G' ι' H' u k' v r
        obtain ⟨a1, a2, a3, a4⟩ := k'.hs.drop k.hs u c.1 c.2.1
        have up : Up G ι (stayG G' H' (ι'.drop en.h.length)) ι := ⟨u.g.trans a1, List.prefix_refl _⟩
        exact h _ ι H' up ⟨a2, k.sl.up up, k'.tb⟩ v (r.fz k'.hs a1 a3 a4 hd)
      · exact h.elim
    · exact h.elim
  | ex x fs e' =>
    rw [q] at h
    exact h
  | stuck =>
    rw [q] at h
    exact h
theorem v_drop {f : M D} (p : PE X e (tF C f)) : PE X e (tF C (dropM f)) := imE p imDrop
theorem v_lc {t : Tg} {vs : List Nat} {fi : M (List D)} {tt : M Bool} {f : M D} (hv : ∀ i ∈ t.slots, i ∈ vs) (p : PE X e (tLc (tFI C fi) (t.g C.K) (tFB C.nox tt) (tF C.nox f) vs)) : PE X e (tF C (lcP t vs fi tt f)) := imE p (imLcP hv)
theorem s_setLcD {st : Stmt} {i : Nat} {t : Tg} {vs : List Nat} {fi : M (List D)} {tt : M Bool} {f : M D} (hv : ∀ i ∈ t.slots, i ∈ vs) (p : PS X st (tAsg (tLc (tFI C fi) (t.g C.K) (tFB C.nox tt) (tF C.nox f) vs) (gName i))) : PS X st (tFS C (setM (dropM (lcP t vs fi tt f)) (putS i))) :=
  s_set (imS p fun Z σ H h => imLcP hv σ H _ (imDrop σ H _ h))
theorem ts_nil : PTs X [] (tFB C (ret true)) := ⟨fun pins s σ H Q I h => pts_nil.run pins s σ H Q I (by
  obtain ⟨G, ι, en, k, h⟩ := h
  exact PX.now (a := true) h k)⟩
theorem ts_one {c : Expr} {f : M Bool} (h : PT X c (tFB C f)) : PTs X [c] (tFB C f) := pts_one h
end
/-- g: a thing and arguments; what is told and what the thing is then -/
def MtU (K : PySem.W.Frag) (r : V → List V → Hp → VK → Prop) (g : List Ob → Ob → List D → Option (D × Ob)) : Prop := ∀ (G : Hp) (ι : List Addr) (H : Hp) (h : List Ob) (a : Addr) (o o' : Ob) (ds : List D) (vs : List V) (d : D) (Q : VK), Hs K G ι H h → ObOk K G ι H a o → RDs K G ι ds vs →
  g h o ds = some (d, o') → (∀ ho w, ObOk K G ι (upd H a ho) a o' → RD K G ι d w → Q w (upd H a ho)) → r (.ref a) vs H Q
def mutE (h : List Ob) (x : D) (g : Ob → Option (D × Ob)) : Option (D × List Ob) := match x with
  | .ref k => match h[k]? with
    | some o => match g o with
      | some (d, o') => some (d, h.set k o')
      | none => none
    | none => none
  | _ => none
def mtM (T : String) (g : List Ob → Ob → List D → Option (D × Ob)) (fo : M D) (fa : M (List D)) : M D := bnd fo fun x => bnd (fun e => match x with
    | .ref k => match e.h[k]?, T with
      | some (.lst _), "list" => .ok () e
      | some (.dic _ _), "dict" => .ok () e
      | _, _ => .stuck
    | _ => .stuck : M Unit) fun _ => bnd fa fun ds e => match mutE e.h x fun o => g e.h o ds with
  | some (d, h') => .ok d ⟨e.ρ, h'⟩
  | none => .stuck
section
variable {X : Cx} {C : Ct} {e : Expr}
theorem ObOk.obj {K : PySem.W.Frag} {G H : Hp} {ι : List Addr} {a : Addr} {o : Ob} (q : ObOk K G ι H a o) : ∃ ho, H a = some ho ∧ (∀ ps, ho ≠ .tbl ps) ∧ ∀ c q, ho ≠ LamX.CodeO c q := by
  cases o with
  | lst xs =>
    obtain ⟨vs, h1, h2⟩ := q
    exact ⟨_, h1, (fun _ z => by cases z), (fun _ _ z => by unfold LamX.CodeO at z; cases z)⟩
  | dic ks ds =>
    obtain ⟨vs, h1, h2⟩ := q
    exact ⟨_, h1, (fun _ z => by cases z), (fun _ _ z => by unfold LamX.CodeO at z; cases z)⟩
  | ins c fs =>
    obtain ⟨dx, vs, h1, h2⟩ := q
    exact ⟨_, h1, (fun _ z => by cases z), (fun _ _ z => by unfold LamX.CodeO at z; cases z)⟩
  | td w ks =>
    obtain ⟨xs, h1, h2⟩ := q
    exact ⟨_, h1, (fun _ z => by cases z), fun _ _ => tupD_ne⟩
theorem Ok.mut {K : PySem.W.Frag} {T : List (Addr × Str)} {G H : Hp} {ι : List Addr} {σ : L2.St} {en : En} {k : Nat} {a : Addr} {o o' : Ob} {ho : HO} (ok : Ok K T G ι H σ en) (hk : ι[k]? = some a) (hq : en.h[k]? = some o) (q : ObOk K G ι (upd H a ho) a o') : Ok K T G ι (upd H a ho) σ ⟨en.ρ, en.h.set k o'⟩ := by
  obtain ⟨ob, h1, h2, h3⟩ := (ok.hs.cell hk hq).obj
  exact ⟨ok.hs.set hk q, ok.sl, tabs_upd2 ok.tb h1 h2 h3⟩
end
section
variable {K : PySem.W.Frag}
def appendO : List Ob → Ob → List D → Option (D × Ob)
  | _, .lst xs, [d] => if xs.length < 1000000 then some (.non, .lst (xs ++ [d])) else none
  | _, _, _ => none
def popO : List Ob → Ob → List D → Option (D × Ob)
  | _, .lst xs, [] => match xs[xs.length - 1]? with
    | some d => some (d, .lst xs.dropLast)
    | none => none
  | _, _, _ => none
theorem RDs.dropLast {G : Hp} {ι : List Addr} {xs : List D} {vs : List V} (r : RDs K G ι xs vs) : RDs K G ι xs.dropLast vs.dropLast := by
  rw [List.dropLast_eq_take, List.dropLast_eq_take, r.1]
  exact r.take _
def clearO : List Ob → Ob → List D → Option (D × Ob)
  | _, .lst _, [] => some (.non, .lst [])
  | _, _, _ => none
def extendO : List Ob → Ob → List D → Option (D × Ob)
  | h, .lst xs, [d] => match lstOf h d with
    | some ys => if xs.length + ys.length ≤ 1000000 then some (.non, .lst (xs ++ ys)) else none
    | none => none
  | _, _, _ => none
end
def MtN (K : PySem.W.Frag) (r : V → List V → Hp → VK → Prop) (T : String) (g : List Ob → D → List D → Option D) : Prop := ∀ (G : Hp) (ι : List Addr) (H : Hp) (h : List Ob) (x d : D) (v : V) (ds : List D) (vs : List V) (Q : VK), Hs K G ι H h → RD K G ι x v → RDs K G ι ds vs → g h x ds = some d →
  (∀ G' H' w, Same G G' → Same H H' → Hs K G' ι H' h → RD K G' ι d w → Q w H') → r v vs H Q
def tyD (h : List Ob) : D → Option String
  | .str _ => some "str"
  | .int _ => some "int"
  | .lst _ => some "list"
  | .scr _ => some "list"
  | .dic _ _ => some "dict"
  | .ref k => match h[k]? with
    | some (.lst _) => some "list"
    | some (.dic _ _) => some "dict"
    | _ => none
  | _ => none
def mnM (T : String) (g : List Ob → D → List D → Option D) (fo : M D) (fa : M (List D)) : M D := bnd fo fun x => bnd (lft fun h => if tyD h x = some T then some () else none) fun _ => bnd fa fun ds => lft fun h => g h x ds
section
variable {X : Cx} {C : Ct} {e : Expr}
end
/-- xs.index(y) of flat things -/
def findF (y : D) : List D → Option Nat
  | [] => none
  | x :: xs => if eqV (dV x) (dV y) then some 0 else (findF y xs).map (· + 1)
def indexD : List Ob → D → List D → Option D
  | h, x, [y] => match lsqOf h x with
    | some xs => if flatD y = true ∧ xs.all flatD = true then (findF y xs).map fun j => .int (j : Nat) else none
    | none => none
  | _, _, _ => none
end Fv
set_option Elab.async false
set_option linter.all false
set_option maxRecDepth 100000
set_option maxHeartbeats 4000000
set_option autoImplicit false
namespace Fv
open PySem PySem.Spec PyProof.Rows L2 Bm
def setItem (h : List Ob) (o i v : D) : Option (List Ob) := match o, i with
  | .ref k, .int j => match h[k]? with
    | some (.lst xs) => match ixN xs.length j with
      | some m => some (h.set k (.lst (xs.set m v)))
      | none => none
    | _ => none
  | _, _ => none
def setI (f fo fi : M D) : M Fl := bnd f fun v => bnd fo fun o => bnd fi fun i e => match setItem e.h o i v with
  | some h' => .ok .nx ⟨e.ρ, h'⟩
  | none => .stuck
section
variable {X : Cx} {C : Ct} {st : Stmt} {e : Expr}
theorem setL_ok {G H : Hp} {ι : List Addr} {σ : L2.St} {en : En} {o i v : D} {uo ui uv : V} {h' : List Ob} {Q : Hp → Prop} (k : Ok C.K C.T G ι H σ en) (ro : RD C.K G ι o uo) (ri : RD C.K G ι i ui) (rv : RD C.K G ι v uv) (e : setItem en.h o i v = some h')
    (q : ∀ H', Ok C.K C.T G ι H' σ ⟨en.ρ, h'⟩ → Q H') : rSetL uo ui uv H Q := by
  unfold setItem at e
  split at e
  · rename_i j m
    cases ri
    cases ro with
    | @ref _ a hj =>
      split at e
      · rename_i xs hx
        split at e
        · rename_i p hp
          cases e
          obtain ⟨vs, h1, h2⟩ := k.hs.cell hj hx
          refine ⟨a, vs, _, p, rfl, rfl, h1, by rw [h2.1]; exact hp, q _ (k.mut hj hx ⟨_, upd_same, h2.set rv⟩)⟩
        · cases e
      · cases e
  · cases e
theorem s_setI {f fo fi : M D} (p : PS X st (tAsg (tF C f) (gSub (tF C fo) (tF C fi) rSetL))) : PS X st (tFS C (setI f fo fi)) := imS p fun Z σ H h => by
  obtain ⟨G, ι, en, k, h⟩ := h
  refine ⟨G, ι, en, k, PX.imp (PS'.bnd h) fun v e1 G1 ι1 H1 u1 k1 q1 uv rv => ⟨G1, ι1, e1, k1, PX.imp (PS'.bnd q1) fun o e2 G2 ι2 H2 u2 k2 q2 uo ro => ⟨G2, ι2, e2, k2, PX.imp (PS'.bnd q2) fun i e3 G3 ι3 H3 u3 k3 q3 ui ri => ?_⟩⟩⟩
  split at q3
  · rename_i h' hh
    exact setL_ok k3 (ro.up u3) ri ((rv.up u2).up u3) hh fun H' k' => q3 G3 ι3 H' σ Up.refl k'
  · exact q3.elim
/-- xs[i] op= e -/
def augI (g : List Ob → D → D → Option D) (fo fi f : M D) : M Fl := bnd fo fun o => bnd fi fun i => bnd (lft fun h => match lstOf h o with
    | some xs => match i with
      | .int j => atI xs j
      | _ => none
    | none => none) fun x => bnd f fun y => bnd (lft fun h => g h x y) fun v e => match setItem e.h o i v with
  | some h' => .ok .nx ⟨e.ρ, h'⟩
  | none => .stuck
end
def insOf (h : List Ob) (x : D) : Option (Str × List (Str × D)) := match x with
  | .ref k => match h[k]? with
    | some (.ins c fs) => some (c, fs)
    | _ => none
  | .obj c ns ds => some (c, ns.zip ds)
  | _ => none
def fldM (cs : List Str) (f : Str) (fo : M D) : M D := bnd fo fun x => lft fun h => match insOf h x with
  | some (c', fs) => if c' ∈ cs then fs.lookup f else none
  | none => none
theorem RF.get {K : PySem.W.Frag} {G : Hp} {ι : List Addr} {fs : List (Str × D)} {gs : List (Str × V)} (r : RF K G ι fs gs) {f : Str} {d : D} (e : fs.lookup f = some d) : ∃ v, gs.lookup f = some v ∧ RD K G ι d v := by
  obtain ⟨r1, r2⟩ := r
  induction fs generalizing gs with
  | nil => cases e
  | cons p fs ih =>
    cases gs with
    | nil => cases r1
    | cons q gs =>
      obtain ⟨n, x⟩ := p
      obtain ⟨m, y⟩ := q
      rw [List.map_cons, List.map_cons] at r1
      injection r1 with a1 a2
      have a1 : m = n := a1
      subst a1
      obtain ⟨v, vs, b1, b2, b3⟩ := r2.inv_cons
      injection b1 with b4 b5
      subst b5
      have b4 : y = v := b4
      subst b4
      rw [List.lookup_cons] at e ⊢
      split at e
      · rename_i c
        cases e
        exact ⟨y, rfl, b2⟩
      · rename_i c
        exact ih e a2 b3
theorem RF.none {K : PySem.W.Frag} {G : Hp} {ι : List Addr} {fs : List (Str × D)} {gs : List (Str × V)} (r : RF K G ι fs gs) {f : Str} (e : fs.lookup f = none) : gs.lookup f = none := by
  obtain ⟨r1, r2⟩ := r
  clear r2
  induction fs generalizing gs with
  | nil =>
    cases gs with
    | nil => rfl
    | cons q gs => cases r1
  | cons p fs ih =>
    cases gs with
    | nil => cases r1
    | cons q gs =>
      obtain ⟨n, x⟩ := p
      obtain ⟨m, y⟩ := q
      rw [List.map_cons, List.map_cons] at r1
      injection r1 with a1 a2
      have a1 : m = n := a1
      subst a1
      rw [List.lookup_cons] at e ⊢
      split at e
      · cases e
      · rename_i c
        exact ih e a2
def putFD (f : Str) (d : D) : List (Str × D) → List (Str × D)
  | [] => [(f, d)]
  | (g, x) :: r => if g = f then (f, d) :: r else (g, x) :: putFD f d r
theorem RF.put {K : PySem.W.Frag} {G : Hp} {ι : List Addr} {f : Str} {d : D} {v : V} (rd : RD K G ι d v) : ∀ {fs : List (Str × D)} {gs : List (Str × V)}, RF K G ι fs gs → RF K G ι (putFD f d fs) (putF f v gs) := by
  intro fs
  induction fs with
  | nil =>
    intro gs r
    cases gs with
    | nil => exact ⟨rfl, .one rd⟩
    | cons q gs => cases r.1
  | cons p fs ih =>
    intro gs r
    obtain ⟨r1, r2⟩ := r
    cases gs with
    | nil => cases r1
    | cons q gs =>
      obtain ⟨n, x⟩ := p
      obtain ⟨m, y⟩ := q
      rw [List.map_cons, List.map_cons] at r1
      injection r1 with a1 a2
      have a1 : m = n := a1
      subst a1
      obtain ⟨w, vs, b1, b2, b3⟩ := r2.inv_cons
      injection b1 with b4 b5
      subst b5
      have b4 : y = w := b4
      subst b4
      by_cases hf : m = f
      · subst hf
        have e1 : putFD m d ((m, x) :: fs) = (m, d) :: fs := by unfold putFD; rw [if_pos rfl]
        have e2 : putF m v ((m, y) :: gs) = (m, v) :: gs := by unfold putF; simp
        rw [e1, e2]
        exact ⟨by rw [List.map_cons, List.map_cons, a2], .cons rd b3⟩
      · have e1 : putFD f d ((m, x) :: fs) = (m, x) :: putFD f d fs := by
          conv => lhs; unfold putFD
          rw [if_neg hf]
        have e2 : putF f v ((m, y) :: gs) = (m, y) :: putF f v gs := by
          conv => lhs; unfold putF
          simp [hf]
        obtain ⟨c1, c2⟩ := ih ⟨a2, b3⟩
        rw [e1, e2]
        exact ⟨by rw [List.map_cons, List.map_cons, c1], .cons b2 c2⟩
section
variable {X : Cx} {C : Ct} {st : Stmt} {e : Expr}
def setFld (h : List Ob) (cs : List Str) (f : Str) (x d : D) : Option (List Ob) := match x with
  | .ref k => match h[k]? with
    | some (.ins c fs) => if c ∈ cs ∧ fs.length < 100 then some (h.set k (.ins c (putFD f d fs))) else none
    | _ => none
  | _ => none
def setF (cs : List Str) (f : Str) (fo fv : M D) : M Fl := bnd fv fun d => bnd fo fun x e => match setFld e.h cs f x d with
  | some h' => .ok .nx ⟨e.ρ, h'⟩
  | none => .stuck
theorem RF.len {K : PySem.W.Frag} {G : Hp} {ι : List Addr} {fs : List (Str × D)} {gs : List (Str × V)} (r : RF K G ι fs gs) : gs.length = fs.length := by
  have := congrArg List.length r.1
  simpa using this
def augF (cs : List Str) (f : Str) (g : List Ob → D → D → Option D) (fo fv : M D) : M Fl := bnd fo fun x => bnd (lft fun h => match insOf h x with
  | some (c', fs) => if c' ∈ cs then (fs.lookup f).map fun v => (c', v) else none
  | none => none) fun a => bnd fv fun b => bnd (lft fun h => g h a.2 b) fun d e => match setFld e.h [a.1] f x d with
  | some h' => .ok .nx ⟨e.ρ, h'⟩
  | none => .stuck
end
def raiseM (x : Str) : M Fl := fun e => .ex x [] e
def raiseN (x : Str) (f : M (List D)) : M Fl := bnd f fun ds e => match ds with
  | [d] => .ex x [("number", d)] e
  | _ => .stuck
section
variable {X : Cx} {C : Ct} {st : Stmt} {e : Expr}
theorem s_raise {x : Str} (p : PS X st (fun _ σ H => C.W (.ref (He.ga C.K x)) none σ H)) : PS X st (tFS C (raiseM x)) := imS p fun Z σ H h => by
  obtain ⟨G, ι, en, k, h⟩ := h
  exact h G ι H σ none Up.refl k (.inl ⟨rfl, rfl⟩)
theorem s_raiseN {x : Str} {f : M (List D)} (O : OexC C.K (He.ga C.K x)) (hno : PySem.W.findIn C.K (.ref (He.ga C.K x)) "number" = some none) (p : PS X st (fun _ σ H => tMkO (He.ga C.K x) (spNumI C.K) [] (tFA C f) σ H fun cls d H' => C.W cls d σ H')) : PS X st (tFS C (raiseN x f)) := imS p fun Z σ H h => by
  obtain ⟨G, ι, en, k, h⟩ := h
  refine ⟨G, ι, en, k, PX.imp (PS'.bnd h) fun ds e1 G1 ι1 H1 u1 k1 q1 vs r => ?_⟩
  match ds, r, q1 with
  | [], r, q1 => exact q1.elim
  | [d], r, q1 =>
    obtain ⟨v, rfl, r1⟩ := r.one_of
    refine num_ok O hno (Q := fun cls d H' => C.W cls d σ H') fun dd nd => ?_
    refine q1 G1 ι1 _ σ (some dd) Up.refl (k1.temp nd) (.inr ⟨(fun z => by cases z), dd, _, rfl, upd_same, fun f x hx => ?_⟩)
    rw [List.lookup_cons] at hx ⊢
    split at hx
    · cases hx
      exact ⟨v, rfl, r1⟩
    · cases hx
  | x :: y :: t, r, q1 => exact q1.elim
def tryM (x : Str) (body suite : M Fl) : M Fl := fun e => match body e with
  | .ok a e' => .ok a e'
  | .ex y fs e' => if y = x ∧ fs = [] then suite e' else .stuck
  | .stuck => .stuck
end
theorem plain_all : ∀ x ∈ plainX, x ∈ allX := by decide
theorem num_all : ∀ x ∈ numX, x ∈ allX := by decide
def kindD (x : Str) (fs : List (Str × D)) : Option D :=
  if x ∈ plainX then (if fs.isEmpty then some (.str x) else none)
  else if x ∈ numX then (fs.lookup ("number" : Str)).map fun d => .tup [.str x, d]
  else if x = "BadRow" then match fs.lookup ("row" : Str), fs.lookup ("why" : Str) with
    | some a, some b => some (.tup [.str x, a, b])
    | _, _ => none
  else none
def kindM (f : M D) : M D := fun e => match f e with
  | .ok d e' => .ok d e'
  | .ex x fs e' => match kindD x fs with
    | some d => .ok d e'
    | none => .stuck
  | .stuck => .stuck
theorem Hs.ext {K : PySem.W.Frag} {G H H1 : Hp} {ι : List Addr} {h : List Ob} (s : Hs K G ι H h) (e : LamX.ExtN H H1) : Hs K G ι H1 h := by
  refine ⟨fun a o q => e a o (s.s _ _ q) fun ps z => s.nt a ps (by rw [q, z]), s.nd, s.len, s.g, s.nt, fun k a o hk ho => ?_⟩
  have ob := s.ob k a o hk ho
  obtain ⟨x, h1, h2, _⟩ := ob.obj
  exact ob.up Up.refl ((e a x h1 h2).trans h1.symm)
theorem Hs.keep {K : PySem.W.Frag} {G H H1 : Hp} {ι : List Addr} {h : List Ob} (s : Hs K G ι H h) (e : Same H H1) : Hs K G ι H1 h := s.ext fun b o q _ => e b o q
/-- what a def makes of a lambda that it got, told by the reading of both -/
theorem kind_in {C : Ct} {f : M D} {σ : L2.St} {H : Hp} {Q : VK} (h : tF C (kindM f) σ H Q) : TKind C.K (fun E H' Q' => tF ⟨C.K, C.T, fun c d _ H => E c d H⟩ f σ H' Q') H Q := by
  obtain ⟨G, ι, en, k, h⟩ := h
  refine ⟨G, ι, en, k, ?_⟩
  unfold kindM at h
  cases q : f en with
  | ok d e' =>
    rw [q] at h
    exact h
  | ex x fs e' =>
    rw [q] at h
    dsimp only at h
    split at h
    · rename_i d hd
      intro G2 ι2 H2 dd u2 k2 z
      have fin : ∀ H', Same H2 H' → Ok C.K C.T G2 ι2 H' σ e' := fun H' s => ⟨k2.hs.keep s, k2.sl, k2.tb.ext s⟩
      have tup : ∀ {p : Addr} {H' : Hp} {vs : List V} {ds : List D}, H2 p = none → Same H2 H' → H' p = some (.tup vs) → RDs C.K G2 ι2 ds vs → d = .tup ds → Q (.ref p) H' := fun {p H' vs ds} n s hp r ed => by
        subst ed
        have n2 := k2.hs.gnone n
        exact h _ _ _ (u2.trans (up_new n2)) ((fin H' s).frz n2 (k2.hs.not_mem n) hp) _ (.tup' (SqT.of upd_same) (r.up (up_new n2)))
      unfold kindD at hd
      split at hd
      · rename_i hx
        split at hd
        · rename_i he
          cases hd
          refine ⟨x, ?_, rfl, .inl ⟨hx, ?_, fun H' s => h _ _ _ u2 (fin H' s) _ (.str x)⟩⟩
          · exact plain_all x hx
          · rcases z with z | ⟨z1, _⟩
            · exact z.2
            · exact absurd (List.isEmpty_iff.mp he) z1
        · cases hd
      · split at hd
        · rename_i hx
          obtain ⟨y, hy, rfl⟩ := Option.map_eq_some_iff.mp hd
          rcases z with z | ⟨z1, d2, gs, z2, z3, z4⟩
          · rw [z.1] at hy
            cases hy
          · obtain ⟨v, b1, b2⟩ := z4 _ _ hy
            exact ⟨x, num_all x hx, rfl, .inr (.inl ⟨hx, d2, gs, v, z2, z3, b1, fun p H' n s hp => tup n s hp (.cons (.str x) (.one b2)) rfl⟩)⟩
        · split at hd
          · rename_i hx
            subst hx
            split at hd
            · rename_i a b ha hb
              cases hd
              rcases z with z | ⟨z1, d2, gs, z2, z3, z4⟩
              · rw [z.1] at ha
                cases ha
              · obtain ⟨v, b1, b2⟩ := z4 _ _ ha
                obtain ⟨w, c1, c2⟩ := z4 _ _ hb
                exact ⟨"BadRow", by decide, rfl, .inr (.inr ⟨rfl, d2, gs, v, w, z2, z3, b1, c1, fun p H' n s hp => tup n s hp (.cons (.str _) (.cons b2 (.one c2))) rfl⟩)⟩
            · cases hd
          · cases hd
    · exact h.elim
  | stuck =>
    rw [q] at h
    exact h.elim
theorem v_kind {X : Cx} {C : Ct} {e : Expr} {f : M D} (p : PE X e (LamX.tLam C.T (TKind C.K) fun E => tF ⟨C.K, C.T, fun c d _ H => E c d H⟩ f)) : PE X e (tF C (kindM f)) := imE p fun σ H Q h => by
  obtain ⟨G, ι, en, k, h⟩ := h
  exact ⟨k.tb, fun H1 e1 t1 => kind_in ⟨G, ι, en, ⟨k.hs.ext e1, k.sl, t1⟩, h⟩⟩
end Fv
set_option Elab.async false
set_option linter.all false
set_option maxRecDepth 100000
set_option maxHeartbeats 4000000
set_option autoImplicit false
namespace Fv
open PySem PySem.Spec PyProof.Rows L2 Bm
section
variable {X : Cx} {C : Ct} {st : Stmt} {e : Expr}
theorem s_augI {r : TIp} {g : List Ob → D → D → Option D} {fo fi f : M D} (s : Op2 C.K r g) (p : PS X st (tAugS (tF C fo) (tF C fi) (tF C f) (rIxL C.K) r rSetL)) : PS X st (tFS C (augI g fo fi f)) := imS p fun Z σ H h => by
  obtain ⟨G, ι, en, k, h⟩ := h
  refine ⟨G, ι, en, k, PX.imp (PS'.bnd h) fun o e1 G1 ι1 H1 u1 k1 q1 uo ro => ⟨G1, ι1, e1, k1, PX.imp (PS'.bnd q1) fun i e2 G2 ι2 H2 u2 k2 q2 ui ri => ?_⟩⟩
  obtain ⟨x, hx, q3⟩ := (PS'.bnd (σ := σ) q2).lft
  split at hx
  · rename_i xs hxs
    split at hx
    · rename_i j
      have ro2 := ro.up u2
      obtain ⟨a, vs, rfl, h1, h2⟩ := lst_rd k2.hs ro2 hxs
      obtain ⟨w, hw, rw⟩ := h2.atI hx
      cases ri
      refine ⟨a, vs, j, w, rfl, rfl, SqL.of h1, hw, G2, ι2, e2, k2, PX.imp (PS'.bnd (q3.now k2)) fun y e3 G3 ι3 H3 u3 k3 q4 uy ry => ?_⟩
      obtain ⟨z, hz, q5⟩ := (PS'.bnd (σ := σ) q4).lft
      refine s G3 ι3 H3 e3.h x y z w uy _ k3.hs (rw.up u3) ry hz fun G' H' t g1 s1 hs rt => ?_
      have k4 := k3.grow g1 s1 hs
      have up4 : Up G3 ι3 G' ι3 := ⟨g1, List.prefix_refl _⟩
      have q6 : PS' C Z G' ι3 (match setItem e3.h o (.int j) z with
        | some h' => .ok .nx ⟨e3.ρ, h'⟩
        | none => .stuck) := q5 G' ι3 H' up4 k4
      split at q6
      · rename_i h' hh
        exact setL_ok k4 ((ro2.up u3).up up4) (.int j) rt hh fun H' k' => q6 G' ι3 H' σ Up.refl k'
      · exact q6.elim
    · cases hx
  · cases hx
end
def keyD : D → Option Key
  | .int i => some (.inl i)
  | .str x => some (.inr x)
  | _ => none
def valD (k : Key) : List Key → List D → Option D
  | j :: ks, d :: ds => if j = k then some d else valD k ks ds
  | _, _ => none
def putD (k : Key) (x : D) : List Key → List D → List Key × List D
  | j :: ks, d :: ds => if j = k then (j :: ks, x :: ds) else ((j :: (putD k x ks ds).1), (d :: (putD k x ks ds).2))
  | ks, ds => (ks ++ [k], ds ++ [x])
def dicOf (h : List Ob) : D → Option (List Key × List D)
  | .dic ks ds => some (ks, ds)
  | .ref k => match h[k]? with
    | some (.dic ks ds) => some (ks, ds)
    | _ => none
  | _ => none
section
variable {K : PySem.W.Frag} {G H : Hp} {ι : List Addr} {h : List Ob}
theorem RK.cases {ks : List Key} {ds : List D} {kvs : List (Key × V)} (r : RK K G ι ks ds kvs) : (ks = [] ∧ ds = [] ∧ kvs = []) ∨ ∃ k ks' d ds' v kvs', ks = k :: ks' ∧ ds = d :: ds' ∧ kvs = (k, v) :: kvs' ∧ RD K G ι d v ∧ RK K G ι ks' ds' kvs' := by
  obtain ⟨r1, r2⟩ := r
  cases kvs with
  | nil =>
    left
    refine ⟨r1.symm, ?_, rfl⟩
    cases ds with
    | nil => rfl
    | cons d ds => cases r2.1
  | cons kv kvs =>
    right
    obtain ⟨k, v⟩ := kv
    cases ds with
    | nil => cases r2.1
    | cons d ds =>
      obtain ⟨w, vs, b1, b2, b3⟩ := r2.inv_cons
      injection b1 with b4 b5
      subst b5
      have b4 : v = w := b4
      subst b4
      exact ⟨k, kvs.map (·.1), d, ds, v, kvs, by rw [← r1]; rfl, rfl, rfl, b2, rfl, b3⟩
theorem RK.val {ks : List Key} {ds : List D} {kvs : List (Key × V)} (r : RK K G ι ks ds kvs) (k : Key) : (valD k ks ds = none ∧ valV kvs k = none) ∨ ∃ d v, valD k ks ds = some d ∧ valV kvs k = some v ∧ RD K G ι d v := by
  induction kvs generalizing ks ds with
  | nil =>
    rcases r.cases with ⟨rfl, rfl, _⟩ | ⟨_, _, _, _, _, _, _, _, z, _⟩
    · exact .inl ⟨by unfold valD; rfl, rfl⟩
    · cases z
  | cons kv kvs ih =>
    rcases r.cases with ⟨_, _, z⟩ | ⟨j, ks', d, ds', v, kvs', rfl, rfl, z, r1, r2⟩
    · cases z
    · cases z
      by_cases e : j = k
      · exact .inr ⟨d, v, by unfold valD; rw [if_pos e], valV_pos e, r1⟩
      · rcases ih r2 with ⟨a1, a2⟩ | ⟨d', v', a1, a2, a3⟩
        · exact .inl ⟨by unfold valD; rw [if_neg e]; exact a1, by rw [valV_neg e]; exact a2⟩
        · exact .inr ⟨d', v', by unfold valD; rw [if_neg e]; exact a1, by rw [valV_neg e]; exact a2, a3⟩
theorem putK_cons {κ : Type} [DecidableEq κ] {p : κ × V} {r : List (κ × V)} {k : κ} {v : V} (nd : (r.map (·.1)).contains p.1 = false ∨ True) (e : ¬ p.1 = k) : putK (p :: r) k v = p :: putK r k v := by
  unfold putK
  rw [List.any_cons, decide_eq_false e, Bool.false_or]
  by_cases a : (r.any fun kv => decide (kv.1 = k)) = true
  · rw [if_pos a, if_pos a, List.map_cons, if_neg e]
  · rw [if_neg a, if_neg a, List.cons_append]
theorem RK.put {ks : List Key} {ds : List D} {kvs : List (Key × V)} (r : RK K G ι ks ds kvs) (nd : ks.Nodup) {k : Key} {x : D} {v : V} (rx : RD K G ι x v) : RK K G ι (putD k x ks ds).1 (putD k x ks ds).2 (putK kvs k v) := by
  induction kvs generalizing ks ds with
  | nil =>
    rcases r.cases with ⟨rfl, rfl, _⟩ | ⟨_, _, _, _, _, _, _, _, z, _⟩
    · refine ⟨?_, ?_⟩
      · unfold putD
        rfl
      · unfold putD
        exact .one rx
    · cases z
  | cons kv kvs ih =>
    rcases r.cases with ⟨_, _, z⟩ | ⟨j, ks', d, ds', w, kvs', rfl, rfl, z, r1, r2⟩
    · cases z
    · cases z
      rw [List.nodup_cons] at nd
      by_cases e : j = k
      · subst e
        have hp : putK ((j, w) :: kvs) j v = (j, v) :: kvs := by
          unfold putK
          rw [List.any_cons, decide_eq_true rfl, Bool.true_or, if_pos rfl, List.map_cons, if_pos rfl]
          congr 1
          have : ∀ l : List (Key × V), j ∉ l.map (·.1) → l.map (fun kv => if kv.1 = j then (kv.1, v) else kv) = l := fun l => by
            induction l with
            | nil => intro _; rfl
            | cons p l ihl =>
              intro h
              rw [List.map_cons, List.mem_cons] at h
              rw [List.map_cons, ihl (fun z => h (.inr z)), if_neg (fun z => h (.inl z.symm))]
          exact this kvs (by rw [r2.1]; exact nd.1)
        rw [hp]
        have hd : putD j x (j :: ks') (d :: ds') = (j :: ks', x :: ds') := by
          conv => lhs; unfold putD
          rw [if_pos rfl]
        rw [hd]
        exact ⟨by rw [List.map_cons, r2.1], .cons rx r2.2⟩
      · rw [putK_cons (.inr trivial) e]
        have hd : putD k x (j :: ks') (d :: ds') = ((j :: (putD k x ks' ds').1), (d :: (putD k x ks' ds').2)) := by
          conv => lhs; unfold putD
          rw [if_neg e]
        rw [hd]
        obtain ⟨a1, a2⟩ := ih r2 nd.2
        exact ⟨by rw [List.map_cons, a1], .cons r1 a2⟩
theorem RK.len {ks : List Key} {ds : List D} {kvs : List (Key × V)} (r : RK K G ι ks ds kvs) : kvs.length = ks.length := by
  rw [← r.1, List.length_map]
end
/-- d[k] -/
def dgetD (h : List Ob) (x y : D) : Option D := match dicOf h x, keyD y with
  | some (ks, ds), some k => valD k ks ds
  | _, _ => none
def dinF (h : List Ob) (x y : D) : Option Bool := match dicOf h x with
  | some (ks, ds) => match y with
    | .non => some false
    | y => match keyD y with
      | some k => some (valD k ks ds).isSome
      | none => none
  | none => none
section
variable {X : Cx} {C : Ct} {st : Stmt} {e : Expr}
/-- d.get(k, x) -/
def dget2M (fd fy fx : M D) : M D := bnd fd fun x => bnd (lft fun h => dicOf h x) fun _ => bnd fy fun y => bnd fx fun z => lft fun h => match dicOf h x, keyD y with
  | some (ks, ds), some k => some ((valD k ks ds).getD z)
  | _, _ => none
/-- d[k] = v -/
def dputE (h : List Ob) (x y v : D) : Option (List Ob) := match x, keyD y with
  | .ref j, some k => match h[j]? with
    | some (.dic ks ds) => if ks.length < 1000000 ∧ ks.Nodup then some (h.set j (.dic (putD k v ks ds).1 (putD k v ks ds).2)) else none
    | _ => none
  | _, _ => none
def dputM (fd fy fv : M D) : M Fl := bnd fv fun v => bnd fd fun x => bnd fy fun y e => match dputE e.h x y v with
  | some h' => .ok .nx ⟨e.ρ, h'⟩
  | none => .stuck
/-- {k: v, ..} -/
def pairsM : List (M D × M D) → M (List (D × D))
  | [] => ret []
  | (f, g) :: r => bnd f fun x => bnd g fun y => bnd (pairsM r) fun ps => ret ((x, y) :: ps)
def keysD : List (D × D) → Option (List Key)
  | [] => some []
  | p :: r => match keyD p.1, keysD r with
    | some k, some ks => some (k :: ks)
    | _, _ => none
def mergeD : List Key → List D → List Key × List D → List Key × List D
  | k :: ks, d :: ds, acc => mergeD ks ds (putD k d acc.1 acc.2)
  | _, _, acc => acc
def dispM (fps : List (M D × M D)) : M D := fun e => match pairsM fps ⟨e.ρ, e.h ++ [.dic [] []]⟩ with
  | .ok ps e' => match keysD ps, e'.h[e.h.length]? with
    | some ks, some (.dic [] []) => if ks.Nodup ∧ ks.length ≤ 15 then .ok (.ref e.h.length) ⟨e'.ρ, e'.h.set e.h.length (.dic ks (ps.map (·.2)))⟩ else .stuck
    | _, _ => .stuck
  | .ex x fs e' => .ex x fs e'
  | .stuck => .stuck
end
end Fv
set_option Elab.async false
set_option linter.all false
set_option maxRecDepth 100000
set_option maxHeartbeats 4000000
set_option autoImplicit false
namespace Fv
open PySem PySem.Spec PyProof.Rows L2 Bm
section
variable {X : Cx} {C : Ct} {st : Stmt} {e : Expr}
def RP (K : PySem.W.Frag) (G : Hp) (ι : List Addr) (ps : List (D × D)) (qs : List (V × V)) : Prop := RDs K G ι (ps.map (·.1)) (qs.map (·.1)) ∧ RDs K G ι (ps.map (·.2)) (qs.map (·.2))
end
def tMethS (C : Addr) (m : Str) (sp : Sp) (dvs : List V) (E : L2.St → XK) (ta : TE) (t : TA) : TE := fun σ H Q => ta σ H fun x H1 => ∃ a dx fs, x = .ref a ∧ H1 a = some (.ins C dx fs) ∧ fs.lookup m = none ∧ t σ H1 fun vs H2 => sp (x :: (vs ++ dvs)) H2 Q (E σ)
structure Me (P : Program) (w : World) (K : PySem.W.Frag) (mg : Str → Option Value) (base : Heap) (CX : CXT) (k : Nat) (c : Str) (m : Str) (sp : Sp) (dvs : List V) : Prop where
  ex : ∃ (f : Addr) (fd : FuncData) (ps : List Str) (ds : List Value), Cls K (He.ga K c) ∧ Meth K (He.ga K c) m f ∧ FnOk P w K mg base CX k f fd ps sp ∧ L2.Binds K fd ps ds ∧ Vals dvs ds
section
variable {X : Cx} {CX : CXT} {k j : Nat} {c m : Str} {sp : Sp} {dvs : List V} {pos apos : Pos} {e o : Expr} {es : List Expr} {ta : TE} {t : TA} {E : L2.St → XK}
/-- where the class is one of some -/
def tMethC (K : PySem.W.Frag) (cs : List Str) (m : Str) (sp : Str → Sp) (dvs : List V) (E : L2.St → XK) (ta : TE) (t : TA) : TE := fun σ H Q => ta σ H fun x H1 => ∃ a c dx fs, x = .ref a ∧ c ∈ cs ∧ H1 a = some (.ins (He.ga K c) dx fs) ∧ fs.lookup m = none ∧ t σ H1 fun vs H2 => sp c (x :: (vs ++ dvs)) H2 Q (E σ)
end
/-- o.m(..): what the class of o does -/
def methM (cs : List Str) (m : Str) (Φ : Str → Fun) (dds : List D) (fo : M D) (fa : M (List D)) : M D := bnd fo fun x => bnd (lft fun h => match insOf h x with
    | some (c, fs) => if c ∈ cs ∧ fs.lookup m = none then some c else none
    | none => none) fun c => bnd fa fun ds e => match Φ c (x :: (ds ++ dds)) e.h with
  | .ok d h' => .ok d ⟨e.ρ, h'⟩
  | .ex x fs h' => .ex x fs ⟨e.ρ, h'⟩
  | .stuck => .stuck
section
variable {X : Cx} {C : Ct} {st : Stmt} {e : Expr}
end
structure Mk' (P : Program) (w : World) (K : PySem.W.Frag) (mg : Str → Option Value) (base : Heap) (CX : CXT) (k : Nat) (c : Str) (sp : Sp) (dvs : List V) : Prop where
  ex : ∃ (f : Addr) (fd : FuncData) (ps : List Str) (ds : List Value), Mk K (He.ga K c) f ∧ FnOk P w K mg base CX k f fd ps sp ∧ mg c = some (.ref (He.ga K c)) ∧ L2.Binds K fd ps ds ∧ Vals dvs ds
section
variable {X : Cx} {CX : CXT} {k j : Nat} {c : Str} {sp : Sp} {dvs : List V} {p pos : Pos} {e : Expr} {es : List Expr} {t : TA} {E : L2.St → XK}
def tMakeS (C : Addr) (sp : Sp) (dvs : List V) (E : L2.St → XK) (t : TA) : TE := fun σ H Q => t σ H fun vs H1 => ∀ x dx, H1 x = none → H1 dx = none → dx ≠ x →
  sp (.ref x :: (vs ++ dvs)) (upd (upd H1 dx (.own x)) x (.ins C dx [])) (fun v H2 => v = .non ∧ Q (.ref x) H2) (E σ)
end
def makeM (c : Str) (Φ : Fun) (dds : List D) (fa : M (List D)) : M D := bnd fa fun ds e => match Φ (.ref e.h.length :: (ds ++ dds)) (e.h ++ [.ins c []]) with
  | .ok .non h' => .ok (.ref e.h.length) ⟨e.ρ, h'⟩
  | .ok _ _ => .stuck
  | .ex x fs h' => .ex x fs ⟨e.ρ, h'⟩
  | .stuck => .stuck
section
variable {X : Cx} {C : Ct} {st : Stmt} {e : Expr}
end
end Fv
set_option Elab.async false
set_option linter.all false
set_option maxRecDepth 100000
set_option maxHeartbeats 4000000
set_option autoImplicit false
namespace Fv
open PySem PySem.Spec PyProof.Rows L2 Bm
section
variable {X : Cx} {CX : CXT} {k j : Nat} {x : Str} {sp : Sp} {dvs : List V} {E : L2.St → XK} {e : Expr} {es : List Expr} {t : TA} {p pos : Pos}
theorem pe_fS (c : Fn X.prog X.w X.K X.mg X.base CX k x sp dvs) (hr : Room j X.A) (hk : k ≤ j) (hx : ∀ σ, PassesAt CX X σ (E σ)) (ha : PA X (e :: es) t) (hg : Gl X x := by rfl)
    (hdb : (x == ("__debug__" : Str)) = false := by decide) (he : starEach (e :: es) X.env = (false, eval e X.env) :: starEach es X.env := by rfl) (hpl : (backTo pos (starEach es X.env)).any (·.1) = false := by rfl) :
    PE X (.Call (.Name x p) (e :: es) [] pos) (tCallSD sp dvs E t) := by
  obtain ⟨f, fd, ps, ds, hm, hkp, hb, hd, F⟩ := c.ex
  exact pe_callSD F (hr.mono hk) hg hm hkp hb hd hx ha hdb he hpl
theorem pass0S {X : Cx} (σ : L2.St) {E : XK} : PassesAt L2.CX0 X σ E := fun _ _ _ _ _ _ h => h.elim
end
theorem Fn.imp {P : Program} {w : World} {K : PySem.W.Frag} {mg : Str → Option Value} {base : Heap} {CX : CXT} {k : Nat} {x : Str} {sp sp' : Sp} {dvs : List V} (c : Fn P w K mg base CX k x sp dvs) (h : ∀ vs H Q E, sp' vs H Q E → sp vs H Q E) : Fn P w K mg base CX k x sp' dvs := by
  obtain ⟨f, fd, ps, ds, hm, hkp, hb, hd, F⟩ := c.ex
  exact ⟨f, fd, ps, ds, hm, hkp, hb, hd, F.imp h⟩
theorem Fn.fin {P : Program} {w : World} {K : PySem.W.Frag} {mg : Str → Option Value} {base : Heap} {CX : CXT} {k n : Nat} {x : Str} {Φ : Fun} {dvs : List V} (c : Fn P w K mg base CX k x (spF K n Φ) dvs) : Fn P w K mg base CX k x (spF K n (finF Φ)) dvs := Fn.imp c imFin
section
variable {X : Cx} {C : Ct} {e : Expr}
end
section
variable {K : PySem.W.Frag} {G : Hp} {ι : List Addr}
end
open Classical in
noncomputable def sameF (n : Nat) : Fun := fun ds h => match ds with
  | [x, y] => match dataOf h x with
    | some p => if dataOf h y = some p ∧ depD n p = true then .ok (.bl true) h else .stuck
    | none => .stuck
  | _ => .stuck
theorem same_fn {P : Program} {w : World} {K : PySem.W.Frag} {mg : Str → Option Value} {base : Heap} {CX : CXT} {k n : Nat} {x : Str} (c : Fn P w K mg base CX k x (spSame K n) []) : Fn P w K mg base CX k x (spF K 2 (sameF n)) [] := Fn.imp c fun vs H Q E h => by
  obtain ⟨hl, T, G, ι, hp, ds, ht, hs, r, p⟩ := h
  unfold sameF at p
  split at p
  · rename_i a b
    split at p
    · rename_i d hd
      split at p
      · rename_i cc
        obtain ⟨v, u, rfl, r1, r2⟩ := r.two_of
        exact ⟨v, u, d, rfl, data_dp hs r1 hd, data_dp hs r2 cc.1, cc.2, fun H' s => p G ι H' _ Up.refl (hs.keep s) (ht.ext s) (.bl true)⟩
      · exact p.elim
    · exact p.elim
  · exact p.elim
end Fv
set_option Elab.async false
set_option linter.all false
set_option maxRecDepth 100000
set_option maxHeartbeats 4000000
set_option autoImplicit false
namespace Fv
open PySem PySem.Spec PyProof.Rows L2 Bm
theorem Me.mono {P : Program} {w : World} {K : PySem.W.Frag} {mg : Str → Option Value} {base : Heap} {CX : CXT} {j k : Nat} {c m : Str} {sp : Sp} {dvs : List V} (d : Me P w K mg base CX j c m sp dvs) (h : j ≤ k) : Me P w K mg base CX k c m sp dvs := by
  obtain ⟨f, fd, ps, ds, hc, hm, F, b, d⟩ := d.ex
  exact ⟨f, fd, ps, ds, hc, hm, F.mono h, b, d⟩
abbrev dinD : List Ob → D → D → Option D := fun h y x => (dinF h x y).map .bl
abbrev dnotinD : List Ob → D → D → Option D := fun h y x => (dinF h x y).map fun b => .bl (!b)
def addI : List Ob → D → D → Option D := int2 fun i j => some (.int (i + j))
section
variable {X : Cx} {C : Ct} {st : Stmt} {e : Expr}
def parM3 (i j l : Nat) (f : M (List D)) : M Fl := bnd f fun ds e => match ds with
  | [x, y, z] => .ok .nx ⟨((e.ρ.set i (some x)).set j (some y)).set l (some z), e.h⟩
  | _ => .stuck
def o2 (g : List Ob → D → D → Option Ob) (fa fb : M D) : M Ob := bnd fa fun x => bnd fb fun y => lft fun h => g h x y
def Op2O (K : PySem.W.Frag) (r : R2) (g : List Ob → D → D → Option Ob) : Prop := ∀ (G : Hp) (ι : List Addr) (H : Hp) (h : List Ob) (x y : D) (o : Ob) (u v : V) (Q : VK), Hs K G ι H h → RD K G ι x u → RD K G ι y v → g h x y = some o →
  (∀ H' a, Same H H' → Hs K G ι H' h → G a = none → a ∉ ι → ObOk K G ι H' a o → Q (.ref a) H') → r u v H Q
def catO (h : List Ob) (x y : D) : Option Ob := match lstOf h x, lstOf h y with
  | some xs, some ys => if xs.length + ys.length ≤ sizeLine then some (.lst (xs ++ ys)) else none
  | _, _ => none
def repO (h : List Ob) (x y : D) : Option Ob := match lstOf h x, y with
  | some xs, .int k => if -(2 ^ 63) ≤ k ∧ k < 2 ^ 63 ∧ xs.length * k.toNat ≤ sizeLine then some (.lst (List.replicate k.toNat xs).flatten) else none
  | _, _ => none
def makeK (c : Str) (Φ : Fun) (fa fk : M (List D)) : M D := bnd fa fun ds => bnd fk fun es e => match Φ (.ref e.h.length :: (ds ++ es)) (e.h ++ [.ins c []]) with
  | .ok .non h' => .ok (.ref e.h.length) ⟨e.ρ, h'⟩
  | .ok _ _ => .stuck
  | .ex x fs h' => .ex x fs ⟨e.ρ, h'⟩
  | .stuck => .stuck
end
structure MkK (P : Program) (w : World) (K : PySem.W.Frag) (mg : Str → Option Value) (base : Heap) (CX : CXT) (k : Nat) (c : Str) (sp : Sp) (n : Nat) (ks : List Str) : Prop where
  ex : ∃ (f : Addr) (fd : FuncData) (ps : List Str) (g : List Value → List Value → List Value), Mk K (He.ga K c) f ∧ FnOk P w K mg base CX k f fd ps sp ∧ mg c = some (.ref (He.ga K c)) ∧ KBn K fd ps (n + 1) ks g (fun us ws => us ++ ws)
section
variable {K : PySem.W.Frag}
def startswithD : List Ob → D → List D → Option D
  | _, .str a, [.str b] => some (.bl (Txt.startswith a b))
  | _, _, _ => none
def endswithD : List Ob → D → List D → Option D
  | _, .str a, [.str b] => some (.bl (Txt.endswith a b))
  | _, _, _ => none
/-- all, any of a list of bools -/
def boolsOf : List D → Option (List Bool)
  | [] => some []
  | .bl b :: r => (boolsOf r).map (b :: ·)
  | _ :: _ => none
def allD (h : List Ob) : List D → Option D
  | [d] => match lstOf h d with
    | some xs => (boolsOf xs).map fun bs => .bl (bs.all id)
    | none => none
  | _ => none
def anyD (h : List Ob) : List D → Option D
  | [d] => match lstOf h d with
    | some xs => (boolsOf xs).map fun bs => .bl (bs.any id)
    | none => none
  | _ => none
end
end Fv
namespace Fv
open PySem PySem.Spec PyProof.Rows L2 Bm
section
variable {X : Cx}
def rExtT (K : PySem.W.Frag) : V → List V → Hp → VK → Prop := fun x vs H Q => ∃ l b xs zs, x = .ref l ∧ vs = [.ref b] ∧ H l = some (.lst xs) ∧ SqT K H b zs ∧ xs.length + zs.length ≤ sizeLine ∧ Q .non (upd H l (.lst (xs ++ zs)))
def rExtA (K : PySem.W.Frag) : V → List V → Hp → VK → Prop := fun x vs H Q => rExtend x vs H Q ∨ rExtT K x vs H Q
end
def extendA : List Ob → Ob → List D → Option (D × Ob)
  | h, .lst xs, [d] => match d with
    | .tup ys => if xs.length + ys.length ≤ 1000000 then some (.non, .lst (xs ++ ys)) else none
    | d => match lstOf h d with
      | some ys => if xs.length + ys.length ≤ 1000000 then some (.non, .lst (xs ++ ys)) else none
      | none => none
  | _, _, _ => none
end Fv
namespace Fv
open PySem PySem.Spec PyProof.Rows L2 Bm
section
variable {X : Cx} {C : Ct} {e : Expr} {pos : Pos}
theorem s_raiseP {x : Str} (hc : X.calm = true) (tk : Takes X C.W) (pm : PMk X e (fun _ H Q => Q (.ref (He.ga C.K x)) none H)) : PS X (.Raise (some e) none pos) (tFS C (raiseM x)) := s_raise (ps_raise (W := C.W) hc tk pm)
theorem s_raiseQ {x : Str} {f : M (List D)} (O : OexC C.K (He.ga C.K x)) (hno : PySem.W.findIn C.K (.ref (He.ga C.K x)) "number" = some none) (hc : X.calm = true) (tk : Takes X C.W) (pm : PMk X e (tMkO (He.ga C.K x) (spNumI C.K) [] (tFA C f))) : PS X (.Raise (some e) none pos) (tFS C (raiseN x f)) := s_raiseN O hno (ps_raise (W := C.W) hc tk pm)
end
end Fv
set_option Elab.async false
set_option linter.all false
set_option maxRecDepth 100000
set_option maxHeartbeats 4000000
set_option autoImplicit false
namespace PySem
open PyProof.Rows
abbrev IsZipS (h : Heap) (z TI TO : Addr) (f : Value) : Prop := h.get? z = some { cls := .type "zip", dict := none, data := .fields #[f, .bool false, .bool true, .ref TI, .ref TO], slots := #[] }
section
variable {prog : Program} {w : World} {A : Around} {E : Value → Shared → Prop} {s : Shared}
end
end PySem
namespace PySem
open PyProof.Rows
section
variable {prog : Program} {w : World} {A : Around} {E : Value → Shared → Prop} {s : Shared}
abbrev zipS5 (h : Heap) (l1 l2 : Addr) : Heap := (zipH4 h l1 l2).push { cls := .type "zip", data := .fields #[.none, .bool false, .bool true, .ref (zipH2 h l1 l2).objs.size, .ref (zipH3 h l1 l2).objs.size] }
end
section
variable {M : Model} {A : Around} {E : Value → Shared → Prop} {s : Shared} {env : Env}
end
end PySem
namespace Fv
open PySem PySem.Spec PyProof.Rows L2 Bm
def ItzS (K : PySem.W.Frag) (a b : Addr) : It := ⟨(Itz K a b).go, (Itz K a b).yld, fun i H => ∃ xs ys : List V, SqL K H a xs ∧ SqL K H b ys ∧ xs.length ≤ i ∧ ys.length ≤ i⟩
def iZipS (K : PySem.W.Frag) (ta : TA) : TI := fun σ H R => ta σ H fun vs H1 => ∃ a b xs ys, vs = [.ref a, .ref b] ∧ SqL K H1 a xs ∧ SqL K H1 b ys ∧ R (ItzS K a b) H1
def zipIS (f : M (List D)) : M (List D) := bnd f fun ds => lft fun _ => match ds with
  | [.lst xs, .lst ys] => if xs.length = ys.length then some (zipL xs ys) else none
  | _ => none
def idxS (z : Str) : List Str → Option Nat
  | [] => none
  | x :: xs => if x = z then some 0 else (idxS z xs).map (· + 1)
def tidxM (ys : List Str) (fa : M (List D)) : M D := bnd fa fun ds => lft fun _ => match ds with
  | [.str z] => (idxS z ys).map fun j => .int (j : Nat)
  | _ => none
end Fv
set_option Elab.async false
set_option linter.all false
set_option maxRecDepth 100000
set_option maxHeartbeats 4000000
set_option autoImplicit false
namespace Fv
open PySem PySem.Spec PyProof.Rows L2 Bm
def rSumT (K : PySem.W.Frag) : List V → Hp → VK → Prop := fun vs H Q => ∃ (a : Addr) (ns : List Int), vs = [V.ref a] ∧ SqT K H a (ns.map V.int) ∧ Q (.int ns.sum) H
theorem cr_sumT {X : Cx} (hc : X.calm = true) : CallR X (.builtin "sum") (rSumT X.K) := by
  intro pins s σ H vs us Q I r h
  obtain ⟨a, ns, rfl, hs, q⟩ := h
  obtain ⟨its, rv, hl, _⟩ := I.tuple hs
  rw [Vals.ref1 r]
  have hi := rv.ints
  have hl' : s.heap.IsTuple a its.toArray := hl
  obtain ⟨xs, hx⟩ := hi.allInts.items
  have hn : numsOf its.toArray.toList = ns := by rw [show its.toArray.toList = its from rfl, hi.numsOf]
  rw [hx] at hl' hn
  rw [nums_intItems] at hn
  refine PySem.W.ktm_sumG (I.ok.hd hc) hl' fun h' tk t' hk => ?_
  rw [preSum_eq, List.take_of_length_le (by simp), hn]
  exact ⟨.int _, H, I.kept hk, ⟨_, rfl⟩, q⟩
theorem cr_sumA {X : Cx} (hc : X.calm = true) : CallR X (.builtin "sum") (fun vs H Q => rSum X.K vs H Q ∨ rSumT X.K vs H Q) := by
  intro pins s σ H vs us Q I r h
  cases h with
  | inl h => exact cr_sum hc pins s σ H vs us Q I r h
  | inr h => exact cr_sumT hc pins s σ H vs us Q I r h
def sumA (h : List Ob) : List D → Option D
  | [.tup xs] => (intsOf xs).map fun ns => .int ns.sum
  | [.lst xs] => (intsOf xs).map fun ns => .int ns.sum
  | [d] => sumD h [d]
  | _ => none
theorem s_sumA {K : PySem.W.Frag} : OpN K (fun vs H Q => rSum K vs H Q ∨ rSumT K vs H Q) sumA := by
  intro G ι H h xs d vs Q s rs e q
  unfold sumA at e
  split at e
  · rename_i ys
    obtain ⟨v, rfl, r⟩ := rs.one_of
    obtain ⟨ns, e1, rfl⟩ := Option.map_eq_some_iff.mp e
    cases r with
    | tup hh l ee =>
      rename_i a us
      have h2 := ints_rd ⟨l, ee⟩ e1
      subst h2
      exact .inr ⟨_, ns, rfl, sqT_at (fun o z => s.s _ o z) hh, q G H _ (Same.refl _) (Same.refl _) s (.int _)⟩
  · rename_i ys
    exact .inl (s_sum G ι H h _ d vs Q s rs (by unfold sumD; exact e) q)
  · exact .inl (s_sum G ι H h _ d vs Q s rs e q)
  · cases e
end Fv
set_option Elab.async false
set_option linter.all false
set_option maxRecDepth 100000
set_option maxHeartbeats 4000000
set_option autoImplicit false
namespace Fv
open PySem PySem.Spec PyProof.Rows L2 Bm
def spLaw (K : PySem.W.Frag) : Sp := fun vs H Q _ => ∃ (sc : Addr) (ns : List Int), vs = [.ref sc] ∧ SqL K H sc (ns.map V.int) ∧ ns.length ≤ 63 ∧ H (He.cT K ("law", none)).2 = some (.tbl #[]) ∧ ∀ H', Q (.bl true) H'
open Classical in
noncomputable def G0 (H : Hp) (sc : Addr) (vs : List V) : Hp := fun a => if a = sc ∧ Rd H sc (.lst vs) then H a else none
theorem rd_ints {K : PySem.W.Frag} {G : Hp} {ι : List Addr} (ns : List Int) : RDs K G ι (ns.map D.int) (ns.map V.int) := by
  induction ns with
  | nil => exact .nil
  | cons x xs ih => exact .cons (.int x) ih
theorem hs_start {K : PySem.W.Frag} {H : Hp} {sc : Addr} {vs : List V} (h : SqL K H sc vs) : Hs K (G0 H sc vs) [] H [] ∧ SqL K (G0 H sc vs) sc vs := by
  refine ⟨⟨fun a o e => ?_, .nil, rfl, (fun a ha => nomatch ha), fun a ps e => ?_, (fun k a o hk => by simp at hk)⟩, ?_⟩
  · unfold G0 at e
    split at e
    · exact e
    · cases e
  · unfold G0 at e
    split at e
    · rename_i c
      obtain ⟨rfl, c⟩ := c
      rcases c with c | ⟨o, c⟩
      · rw [c] at e
        cases e
      · rw [c] at e
        cases e
    · cases e
  · rcases h with h | h
    · have e : G0 H sc vs sc = H sc := by
        unfold G0
        rw [if_pos ⟨rfl, h⟩]
      rcases h with h | ⟨o, h⟩
      · exact .inl (.inl (e.trans h))
      · exact .inl (.inr ⟨o, e.trans h⟩)
    · exact .inr h
end Fv
set_option Elab.async false
set_option linter.all false
set_option maxRecDepth 100000
set_option maxHeartbeats 4000000
set_option autoImplicit false
namespace Fv
open PySem PySem.Spec PyProof.Rows L2 Bm
section
variable {α β : Type} {e : En} {h : List Ob}
@[simp] theorem x_bnd (f : M α) (g : α → M β) (e : En) : bnd f g e = (match f e with
  | .ok a e' => g a e'
  | .ex x fs e' => .ex x fs e'
  | .stuck => .stuck) := rfl
@[simp] theorem x_ret (a : α) (e : En) : Fv.ret a e = .ok a e := rfl
@[simp] theorem x_eV (i : Nat) (e : En) : eV i e = (match e.ρ[i]? with
  | some (some d) => .ok d e
  | _ => .stuck) := rfl
@[simp] theorem x_lft (o : List Ob → Option α) (e : En) : lft o e = (match o e.h with
  | some d => .ok d e
  | none => .stuck) := rfl
@[simp] theorem x_e2 (g : List Ob → D → D → Option D) (fa fb : M D) (e : En) : e2 g fa fb e = bnd fa (fun x => bnd fb fun y => lft fun h => g h x y) e := rfl
@[simp] theorem x_bM (f : M D) (e : En) : bM f e = (match f e with
  | .ok (.bl b) e' => .ok b e'
  | .ok _ _ => .stuck
  | .ex x fs e' => .ex x fs e'
  | .stuck => .stuck) := by
  unfold bM bnd
  cases f e with
  | ok d e' => cases d <;> rfl
  | ex x fs e' => rfl
  | stuck => rfl
@[simp] theorem x_andM (f g : M Bool) (e : En) : andM f g e = bnd f (fun b => if b then g else Fv.ret false) e := rfl
@[simp] theorem x_orM (f g : M Bool) (e : En) : orM f g e = bnd f (fun b => if b then Fv.ret true else g) e := rfl
@[simp] theorem x_notM (f : M Bool) (e : En) : notM f e = bnd f (fun b => Fv.ret (!b)) e := rfl
@[simp] theorem x_andV (f g : M D) (e : En) : andV f g e = bnd (bM f) (fun b => if b then g else Fv.ret (.bl false)) e := rfl
@[simp] theorem x_orV (f g : M D) (e : En) : orV f g e = bnd (bM f) (fun b => if b then Fv.ret (.bl true) else g) e := rfl
@[simp] theorem x_notV (f : M D) (e : En) : notV f e = bnd (bM f) (fun b => Fv.ret (.bl (!b))) e := rfl
@[simp] theorem x_ifM (c : M Bool) (f g : M D) (e : En) : ifM c f g e = bnd c (fun b => if b then f else g) e := rfl
@[simp] theorem x_tIfB (c f g : M Bool) (e : En) : tIfB c f g e = bnd c (fun b => if b then f else g) e := rfl
@[simp] theorem x_nilM (e : En) : nilM e = .ok [] e := rfl
@[simp] theorem x_consM (f : M D) (g : M (List D)) (e : En) : consM f g e = bnd f (fun x => bnd g fun xs => Fv.ret (x :: xs)) e := rfl
@[simp] theorem x_tupM (f : M (List D)) (e : En) : tupM f e = bnd f (fun ds => lft fun _ => if ds.length ≤ 1000 then some (.tup ds) else none) e := rfl
@[simp] theorem x_lstM (f : M (List D)) (e : En) : lstM f e = bnd f (fun ds => lft fun _ => if ds.length ≤ 1000 then some (.lst ds) else none) e := rfl
@[simp] theorem x_frzM (f : M Ob) (e : En) : frzM f e = (match f e with
  | .ok (.lst xs) e' => .ok (.lst xs) e'
  | .ok (.dic ks ds) e' => .ok (.dic ks ds) e'
  | .ok (.ins _ _) _ => .stuck
  | .ok (.td _ _) _ => .stuck
  | .ex x fs e' => .ex x fs e'
  | .stuck => .stuck) := by
  unfold frzM bnd
  cases f e with
  | ok d e' => cases d <;> rfl
  | ex x fs e' => rfl
  | stuck => rfl
@[simp] theorem x_pubM (f : M Ob) (e : En) : pubM f e = bnd f (fun o e => .ok (.ref e.h.length) ⟨e.ρ, e.h ++ [o]⟩) e := rfl
@[simp] theorem x_cN (g : List Ob → List D → Option D) (f : M (List D)) (e : En) : cN g f e = bnd f (fun ds => lft fun h => g h ds) e := rfl
@[simp] theorem x_cO (g : List Ob → List D → Option Ob) (f : M (List D)) (e : En) : cO g f e = bnd f (fun ds => lft fun h => g h ds) e := rfl
@[simp] theorem x_negM (f : M D) (e : En) : negM f e = bnd f (fun d => lft fun _ => match d with
  | .int i => some (.int (-i))
  | _ => none) e := rfl
@[simp] theorem x_chM (g g' : List Ob → D → D → Option D) (fa fb fc : M D) (e : En) : chM g g' fa fb fc e = bnd fa (fun x => bnd fb fun y => bnd (bM (lft fun h => g h x y)) fun b => if b then bnd fc fun z => lft fun h => g' h y z else Fv.ret (.bl false)) e := rfl
@[simp] theorem x_slM (fx : M D) (fl fh : M (Option Int)) (e : En) : slM fx fl fh e = bnd fx (fun x => bnd fl fun lo => bnd fh fun hi => lft fun h => slD h x lo hi) e := rfl
@[simp] theorem x_prt0 (e : En) : prt none e = .ok none e := rfl
@[simp] theorem x_prt1 (f : M D) (e : En) : prt (some f) e = bnd f (fun d => lft fun _ => match d with
  | .int i => some (some i)
  | _ => none) e := rfl
@[simp] theorem x_seqM (f g : M Fl) (e : En) : seqM f g e = (match f e with
  | .ok .nx e' => g e'
  | r => r) := rfl
@[simp] theorem x_exprM (f : M D) (e : En) : exprM f e = bnd f (fun _ => Fv.ret .nx) e := rfl
@[simp] theorem x_retM (f : M D) (e : En) : retM f e = bnd f (fun d => Fv.ret (.rt d)) e := rfl
@[simp] theorem x_putS (i : Nat) (d : D) (e : En) : putS i d e = some ⟨e.ρ.set i (some d), e.h⟩ := rfl
@[simp] theorem x_setM (f : M D) (b : D → En → Option En) (e : En) : setM f b e = bnd f (fun d e => match b d e with
  | some e' => .ok .nx e'
  | none => .stuck) e := rfl
@[simp] theorem x_ifS (c : M Bool) (f g : M Fl) (e : En) : ifS c f g e = bnd c (fun b => if b then f else g) e := rfl
@[simp] theorem x_parM (i j : Nat) (f : M (List D)) (e : En) : parM i j f e = bnd f (fun ds e => match ds with
  | [x, y] => .ok .nx ⟨(e.ρ.set i (some x)).set j (some y), e.h⟩
  | _ => .stuck) e := rfl
@[simp] theorem x_parM3 (i j l : Nat) (f : M (List D)) (e : En) : parM3 i j l f e = bnd f (fun ds e => match ds with
  | [x, y, z] => .ok .nx ⟨((e.ρ.set i (some x)).set j (some y)).set l (some z), e.h⟩
  | _ => .stuck) e := rfl
@[simp] theorem x_augM (i : Nat) (g : List Ob → D → D → Option D) (f : M D) (e : En) : augM i g f e = bnd (eV i) (fun x => bnd f fun y => bnd (lft fun h => g h x y) fun d e => .ok .nx ⟨e.ρ.set i (some d), e.h⟩) e := rfl
@[simp] theorem x_callM (Φ : Fun) (dds : List D) (fa : M (List D)) (e : En) : callM Φ dds fa e = bnd fa (fun ds e => match Φ (ds ++ dds) e.h with
  | .ok d h' => .ok d ⟨e.ρ, h'⟩
  | .ex x fs h' => .ex x fs ⟨e.ρ, h'⟩
  | .stuck => .stuck) e := rfl
@[simp] theorem x_setI (f fo fi : M D) (e : En) : setI f fo fi e = bnd f (fun v => bnd fo fun o => bnd fi fun i e => match setItem e.h o i v with
  | some h' => .ok .nx ⟨e.ρ, h'⟩
  | none => .stuck) e := rfl
@[simp] theorem x_fldM (cs : List Str) (f : Str) (fo : M D) (e : En) : fldM cs f fo e = bnd fo (fun x => lft fun h => match insOf h x with
  | some (c', fs) => if c' ∈ cs then fs.lookup f else none
  | none => none) e := rfl
@[simp] theorem x_setF (cs : List Str) (f : Str) (fo fv : M D) (e : En) : setF cs f fo fv e = bnd fv (fun d => bnd fo fun x e => match setFld e.h cs f x d with
  | some h' => .ok .nx ⟨e.ρ, h'⟩
  | none => .stuck) e := rfl
@[simp] theorem x_raiseM (x : Str) (e : En) : raiseM x e = .ex x [] e := rfl
@[simp] theorem x_raiseN (x : Str) (f : M (List D)) (e : En) : raiseN x f e = bnd f (fun ds e => match ds with
  | [d] => .ex x [("number", d)] e
  | _ => .stuck) e := rfl
@[simp] theorem x_methM (cs : List Str) (m : Str) (Φ : Str → Fun) (dds : List D) (fo : M D) (fa : M (List D)) (e : En) : methM cs m Φ dds fo fa e = bnd fo (fun x => bnd (lft fun h => match insOf h x with
    | some (c, fs) => if c ∈ cs ∧ fs.lookup m = none then some c else none
    | none => none) fun c => bnd fa fun ds e => match Φ c (x :: (ds ++ dds)) e.h with
  | .ok d h' => .ok d ⟨e.ρ, h'⟩
  | .ex x fs h' => .ex x fs ⟨e.ρ, h'⟩
  | .stuck => .stuck) e := rfl
@[simp] theorem x_mnM (T : String) (g : List Ob → D → List D → Option D) (fo : M D) (fa : M (List D)) (e : En) : mnM T g fo fa e = bnd fo (fun x => bnd (lft fun h => if tyD h x = some T then some () else none) fun _ => bnd fa fun ds => lft fun h => g h x ds) e := rfl
@[simp] theorem x_tidxM (ys : List Str) (fa : M (List D)) (e : En) : tidxM ys fa e = bnd fa (fun ds => lft fun _ => match ds with
  | [.str z] => (idxS z ys).map fun j => .int (j : Nat)
  | _ => none) e := rfl
@[simp] theorem x_forM (fi : M (List D)) (b : D → En → Option En) (body : M Fl) (e : En) : forM fi b body e = bnd fi (fun ds => forL b body ds) e := rfl
@[simp] theorem x_seqI (f : M D) (e : En) : seqI f e = bnd f (fun d => lft fun _ => stayOf d) e := rfl
@[simp] theorem x_rng1 (f : M (List D)) (e : En) : rng1 f e = bnd f (fun ds => lft fun _ => match ds with
  | [.int j] => if -(2 ^ 62) ≤ j ∧ j < 2 ^ 62 then some (rangeL 0 j.toNat) else none
  | _ => none) e := rfl
@[simp] theorem x_zipI (f : M (List D)) (e : En) : zipI f e = bnd f (fun ds => lft fun _ => match ds with
  | [.lst xs, .lst ys] => some (zipL xs ys)
  | _ => none) e := rfl
@[simp] theorem x_zipIS (f : M (List D)) (e : En) : zipIS f e = bnd f (fun ds => lft fun _ => match ds with
  | [.lst xs, .lst ys] => if xs.length = ys.length then some (zipL xs ys) else none
  | _ => none) e := rfl
@[simp] theorem x_start0 (n : Nat) (ds : List D) : start0 n ds = ds.map some ++ List.replicate (n - ds.length) none := rfl
@[simp] theorem x_defF (n : Nat) (f : M Fl) (ds : List D) (h : List Ob) : defF n f ds h = (match f ⟨start0 n ds, h⟩ with
  | .ok (.rt d) e => .ok d e.h
  | .ok .nx e => .ok .non e.h
  | .ex x fs e => .ex x fs e.h
  | _ => .stuck) := by
  unfold defF
  cases f ⟨start0 n ds, h⟩ with
  | ok a e => cases a <;> rfl
  | ex x fs e => rfl
  | stuck => rfl
variable (i j : Int) (a b : Str) (xs ys : List D) (x y : D)
@[simp] theorem x_add1 : addD h (.int i) (.int j) = some (.int (i + j)) := rfl
@[simp] theorem x_add2 : addD h (.str a) (.str b) = if a.length + b.length ≤ sizeLine then some (.str (a ++ b)) else none := rfl
@[simp] theorem x_add3 : addD h (.tup xs) (.tup ys) = if xs.length + ys.length ≤ sizeLine then some (.tup (xs ++ ys)) else none := rfl
@[simp] theorem x_add4 : addD h (.lst xs) (.lst ys) = if xs.length + ys.length ≤ sizeLine then some (.lst (xs ++ ys)) else none := rfl
@[simp] theorem x_addI : addI h (.int i) (.int j) = some (.int (i + j)) := rfl
@[simp] theorem x_sub : subD h (.int i) (.int j) = some (.int (i - j)) := rfl
@[simp] theorem x_mul : mulA h (.int i) (.int j) = if CMul i j then some (.int (i * j)) else none := rfl
@[simp] theorem x_div : divD h (.int i) (.int j) = if 0 < j ∧ j.natAbs.log2 < 9000 then some (.int (i / j)) else none := rfl
@[simp] theorem x_mod : modD h (.int i) (.int j) = if 0 < j then some (.int (i % j)) else none := rfl
@[simp] theorem x_pow : powD h (.int i) (.int j) = if 0 ≤ j ∧ j ≤ 1000000 ∧ i.natAbs < 2 ^ 64 then some (.int (i ^ j.toNat)) else none := rfl
@[simp] theorem x_shl : shlD h (.int i) (.int j) = if 0 ≤ j ∧ j ≤ 1000000 ∧ i.natAbs < 2 ^ 64 then some (.int (i * 2 ^ j.toNat)) else none := rfl
@[simp] theorem x_shr : shrD h (.int i) (.int j) = if 0 ≤ j then some (.int (i / 2 ^ j.toNat)) else none := rfl
@[simp] theorem x_and : andD h (.int i) (.int j) = some (.int (Builtin.bitAnd i j)) := rfl
@[simp] theorem x_or : orD h (.int i) (.int j) = some (.int (Builtin.bitOr i j)) := rfl
@[simp] theorem x_xor : xorD h (.int i) (.int j) = some (.int (Builtin.bitXor i j)) := rfl
@[simp] theorem x_lt : ltD h (.int i) (.int j) = some (.bl (decide (i < j))) := rfl
@[simp] theorem x_le : leD h (.int i) (.int j) = some (.bl (decide (i ≤ j))) := rfl
@[simp] theorem x_gt : gtD h (.int i) (.int j) = some (.bl (decide (j < i))) := rfl
@[simp] theorem x_ge : geD h (.int i) (.int j) = some (.bl (decide (j ≤ i))) := rfl
@[simp] theorem x_eqi : eqD h (.int i) (.int j) = some (.bl (decide (i = j))) := rfl
@[simp] theorem x_eqs : eqD h (.str a) (.str b) = some (.bl (decide (a = b))) := rfl
@[simp] theorem x_nei : neD h (.int i) (.int j) = some (.bl (!decide (i = j))) := rfl
@[simp] theorem x_nes : neD h (.str a) (.str b) = some (.bl (!decide (a = b))) := rfl
@[simp] theorem x_isN : isND h x .non = some (.bl (isN x)) := rfl
@[simp] theorem x_isnotN : isnotND h x .non = some (.bl (!isN x)) := rfl
@[simp] theorem x_ix1 : ixD h (.lst xs) (.int i) = atI xs i := rfl
@[simp] theorem x_ix2 : ixD h (.tup xs) (.int i) = atI xs i := rfl
@[simp] theorem x_ix3 : ixD h (.scr xs) (.int i) = atI xs i := rfl
@[simp] theorem x_len1 : lenD h [.lst xs] = some (.int xs.length) := rfl
@[simp] theorem x_len2 : lenD h [.tup xs] = some (.int xs.length) := rfl
@[simp] theorem x_len3 : lenD h [.scr xs] = some (.int xs.length) := rfl
@[simp] theorem x_int1 : intD h [.int i] = some (.int i) := rfl
@[simp] theorem x_int2 (k : Bool) : intD h [.bl k] = some (.int (if k then 1 else 0)) := rfl
@[simp] theorem x_max : maxD h [.int i, .int j] = some (.int (if j > i then j else i)) := rfl
@[simp] theorem x_min : minD h [.int i, .int j] = some (.int (if j < i then j else i)) := rfl
@[simp] theorem x_sl1 (lo hi : Option Int) : slD h (.tup xs) lo hi = some (.tup (cut xs lo hi)) := rfl
@[simp] theorem x_sl2 (lo hi : Option Int) : slD h (.lst xs) lo hi = some (.lst (cut xs lo hi)) := rfl
end
end Fv
set_option Elab.async false
set_option linter.all false
set_option maxRecDepth 100000
set_option maxHeartbeats 4000000
set_option autoImplicit false
namespace Fv
open PySem PySem.Spec PyProof.Rows L2 Bm
section
variable {h t : List Ob} {o o' a : Ob}
theorem size_le {n : Nat} (h : n ≤ 1000) : n ≤ sizeLine := by rw [sizeLine_eq]; omega
@[simp] theorem at_new0 : (h ++ o :: t)[h.length]? = some o := by simp
@[simp] theorem at_new1 : (h ++ a :: o :: t)[h.length + 1]? = some o := by simp
@[simp] theorem set_new0 : (h ++ o :: t).set h.length o' = h ++ o' :: t := by simp
@[simp] theorem set_new1 : (h ++ a :: o :: t).set (h.length + 1) o' = h ++ a :: o' :: t := by simp
@[simp] theorem x_seqr (k : Nat) : seqOf h (.ref k) = (match h[k]? with
  | some (.lst xs) => some xs
  | _ => none) := rfl
@[simp] theorem x_lsqr (k : Nat) : lsqOf h (.ref k) = (match h[k]? with
  | some (.lst xs) => some xs
  | _ => none) := rfl
@[simp] theorem x_lstr (k : Nat) : lstOf h (.ref k) = (match h[k]? with
  | some (.lst xs) => some xs
  | _ => none) := rfl
@[simp] theorem x_seq1 (xs : List D) : seqOf h (.lst xs) = some xs := rfl
@[simp] theorem x_seq2 (xs : List D) : seqOf h (.tup xs) = some xs := rfl
@[simp] theorem x_seq3 (xs : List D) : seqOf h (.scr xs) = some xs := rfl
@[simp] theorem x_lsq1 (xs : List D) : lsqOf h (.lst xs) = some xs := rfl
@[simp] theorem x_lsq3 (xs : List D) : lsqOf h (.scr xs) = some xs := rfl
@[simp] theorem x_lst1 (xs : List D) : lstOf h (.lst xs) = some xs := rfl
@[simp] theorem x_ixr (k : Nat) (i : Int) : ixD h (.ref k) (.int i) = (match seqOf h (.ref k) with
  | some xs => atI xs i
  | none => none) := rfl
@[simp] theorem x_setItem (k : Nat) (j : Int) (v : D) : setItem h (.ref k) (.int j) v = (match h[k]? with
  | some (.lst xs) => match ixN xs.length j with
    | some m => some (h.set k (.lst (xs.set m v)))
    | none => none
  | _ => none) := rfl
@[simp] theorem x_insr (k : Nat) : insOf h (.ref k) = (match h[k]? with
  | some (.ins c fs) => some (c, fs)
  | _ => none) := rfl
@[simp] theorem x_inso (c : Str) (ns : List Str) (ds : List D) : insOf h (.obj c ns ds) = some (c, ns.zip ds) := rfl
@[simp] theorem x_setFld (cs : List Str) (f : Str) (k : Nat) (d : D) : setFld h cs f (.ref k) d = (match h[k]? with
  | some (.ins c fs) => if c ∈ cs ∧ fs.length < 100 then some (h.set k (.ins c (putFD f d fs))) else none
  | _ => none) := rfl
@[simp] theorem x_putF0 (f : Str) (d : D) : putFD f d [] = [(f, d)] := rfl
@[simp] theorem x_putF1 (f g : Str) (d x : D) (r : List (Str × D)) : putFD f d ((g, x) :: r) = if g = f then (f, d) :: r else (g, x) :: putFD f d r := rfl
@[simp] theorem x_lenr (k : Nat) : lenD h [.ref k] = (seqOf h (.ref k)).map fun xs => .int xs.length := rfl
@[simp] theorem x_dputM (fd fy fv : M D) (e : En) : dputM fd fy fv e = bnd fv (fun v => bnd fd fun x => bnd fy fun y e => match dputE e.h x y v with
  | some h' => .ok .nx ⟨e.ρ, h'⟩
  | none => .stuck) e := rfl
@[simp] theorem x_dputE (j : Nat) (s : Str) (v : D) : dputE h (.ref j) (.str s) v = (match h[j]? with
  | some (.dic ks ds) => if ks.length < 1000000 ∧ ks.Nodup then some (h.set j (.dic (putD (.inr s) v ks ds).1 (putD (.inr s) v ks ds).2)) else none
  | _ => none) := rfl
@[simp] theorem x_putD0 (k : Key) (x : D) : putD k x [] [] = ([k], [x]) := rfl
@[simp] theorem x_putD1 (k j : Key) (x d : D) (ks : List Key) (ds : List D) : putD k x (j :: ks) (d :: ds) = if j = k then (j :: ks, x :: ds) else ((j :: (putD k x ks ds).1), (d :: (putD k x ks ds).2)) := rfl
@[simp] theorem x_forL0 (b : D → En → Option En) (body : M Fl) (e : En) : forL b body [] e = .ok .nx e := rfl
@[simp] theorem x_forL1 (b : D → En → Option En) (body : M Fl) (d : D) (ds : List D) (e : En) : forL b body (d :: ds) e = (match b d e with
    | some e1 => match body e1 with
      | .ok .nx e2 => forL b body ds e2
      | .ok .ct e2 => forL b body ds e2
      | .ok .bk e2 => .ok .nx e2
      | r => r
    | none => .stuck) := rfl
@[simp] theorem x_addlr (xs : List D) (k : Nat) : addD h (.lst xs) (.ref k) = (match lstOf h (.ref k) with
  | some ys => if xs.length + ys.length ≤ sizeLine then some (.lst (xs ++ ys)) else none
  | none => none) := by
  show (match lstOf h (.lst xs), lstOf h (.ref k) with
    | some xs, some ys => if xs.length + ys.length ≤ sizeLine then some (D.lst (xs ++ ys)) else none
    | _, _ => none) = _
  cases q : lstOf h (.ref k) <;> simp
@[simp] theorem x_addrl (k : Nat) (ys : List D) : addD h (.ref k) (.lst ys) = (match lstOf h (.ref k) with
  | some xs => if xs.length + ys.length ≤ sizeLine then some (.lst (xs ++ ys)) else none
  | none => none) := by
  show (match lstOf h (.ref k), lstOf h (.lst ys) with
    | some xs, some ys => if xs.length + ys.length ≤ sizeLine then some (D.lst (xs ++ ys)) else none
    | _, _ => none) = _
  cases q : lstOf h (.ref k) <;> simp
@[simp] theorem x_mtL (g : List Ob → Ob → List D → Option (D × Ob)) (fo : M D) (fa : M (List D)) (e : En) : mtM "list" g fo fa e = bnd fo (fun x => bnd (fun e => match x with
    | .ref k => match e.h[k]? with
      | some (.lst _) => .ok () e
      | _ => .stuck
    | _ => .stuck : M Unit) fun _ => bnd fa fun ds e => match mutE e.h x fun o => g e.h o ds with
  | some (d, h') => .ok d ⟨e.ρ, h'⟩
  | none => .stuck) e := by
  unfold mtM
  congr 1
  funext x
  congr 1
  funext e
  cases x <;> try rfl
  rename_i k
  dsimp only
  cases e.h[k]? with
  | none => rfl
  | some o => cases o <;> rfl
@[simp] theorem x_mutE (k : Nat) (g : Ob → Option (D × Ob)) : mutE h (.ref k) g = (match h[k]? with
    | some o => match g o with
      | some (d, o') => some (d, h.set k o')
      | none => none
    | none => none) := rfl
@[simp] theorem x_pop (xs : List D) : popO h (.lst xs) [] = (match xs[xs.length - 1]? with
    | some d => some (d, .lst xs.dropLast)
    | none => none) := rfl
@[simp] theorem x_append (xs : List D) (d : D) : appendO h (.lst xs) [d] = if xs.length < 1000000 then some (.non, .lst (xs ++ [d])) else none := rfl
@[simp] theorem x_nilG (e : En) : nilG [] e = some e := rfl
@[simp] theorem x_consG (b : D → En → Option En) (bs : List D → En → Option En) (d : D) (ds : List D) (e : En) : consG b bs (d :: ds) e = (match b d e with
  | some e' => bs ds e'
  | none => none) := rfl
@[simp] theorem x_tupG (n : Nat) (bs : List D → En → Option En) (ds : List D) (e : En) : tupG n bs (.tup ds) e = if ds.length = n then bs ds e else none := rfl
@[simp] theorem x_ine (x y : D) : inD h x y = (inF h x y).map .bl := rfl
@[simp] theorem x_notine (x y : D) : notinD h x y = (inF h x y).map fun b => .bl (!b) := by
  unfold notinD
  cases inF h x y <;> rfl
@[simp] theorem x_inF1 (x : D) (ys : List D) : inF h x (.tup ys) = if flatD x = true ∧ ys.all flatD = true then some (ys.any fun z => eqV (dV z) (dV x)) else none := rfl
@[simp] theorem x_inF2 (x : D) (ys : List D) : inF h x (.lst ys) = if flatD x = true ∧ ys.all flatD = true then some (ys.any fun z => eqV (dV z) (dV x)) else none := rfl
@[simp] theorem x_fl1 (i : Int) : flatD (.int i) = true := rfl
@[simp] theorem x_fl2 (i : Str) : flatD (.str i) = true := rfl
@[simp] theorem x_fl3 (i : Bool) : flatD (.bl i) = true := rfl
@[simp] theorem x_fl4 : flatD .non = true := rfl
@[simp] theorem x_dv1 (i : Int) : dV (.int i) = .int i := rfl
@[simp] theorem x_dv2 (i : Str) : dV (.str i) = .str i := rfl
@[simp] theorem x_dv3 (i : Bool) : dV (.bl i) = .bl i := rfl
@[simp] theorem x_eqV1 (i j : Int) : eqV (.int i) (.int j) = (i == j) := rfl
@[simp] theorem x_eqV2 (i j : Str) : eqV (.str i) (.str j) = (i == j) := rfl
@[simp] theorem x_eqV3 (i : Str) (j : Int) : eqV (.str i) (.int j) = false := rfl
@[simp] theorem x_eqV4 (i : Int) (j : Str) : eqV (.int i) (.str j) = false := rfl
@[simp] theorem x_find0 (y : D) : findF y [] = none := rfl
@[simp] theorem x_find1 (y x : D) (xs : List D) : findF y (x :: xs) = if eqV (dV x) (dV y) then some 0 else (findF y xs).map (· + 1) := rfl
@[simp] theorem x_index (x y : D) : indexD h x [y] = (match lsqOf h x with
  | some xs => if flatD y = true ∧ xs.all flatD = true then (findF y xs).map fun j => .int (j : Nat) else none
  | none => none) := rfl
@[simp] theorem x_ty1 (xs : List D) : tyD h (.lst xs) = some "list" := rfl
@[simp] theorem x_idx0 (z : Str) : idxS z [] = none := rfl
@[simp] theorem x_idx1 (z x : Str) (xs : List Str) : idxS z (x :: xs) = if x = z then some 0 else (idxS z xs).map (· + 1) := rfl
@[simp] theorem x_sum1 (xs : List D) : sumA h [.tup xs] = (intsOf xs).map fun ns => .int ns.sum := rfl
@[simp] theorem x_sum2 (xs : List D) : sumA h [.lst xs] = (intsOf xs).map fun ns => .int ns.sum := rfl
@[simp] theorem x_ints0 : intsOf [] = some [] := rfl
@[simp] theorem x_ints1 (i : Int) (r : List D) : intsOf (.int i :: r) = (intsOf r).map (i :: ·) := rfl
@[simp] theorem x_isi (x : D) (c : String) : isiD h [x, .typ c] = if c ∈ isiNames then (kdOf h x).map fun n => .bl (isiB n c) else none := rfl
@[simp] theorem x_kd1 (i : Int) : kdOf h (.int i) = some "int" := rfl
@[simp] theorem x_kd2 (i : Str) : kdOf h (.str i) = some "str" := rfl
@[simp] theorem x_kd3 (i : Bool) : kdOf h (.bl i) = some "bool" := rfl
@[simp] theorem x_kd4 (xs : List D) : kdOf h (.tup xs) = some "tuple" := rfl
@[simp] theorem x_kd5 (xs : List D) : kdOf h (.lst xs) = some "list" := rfl
@[simp] theorem x_kd6 : kdOf h .non = some "NoneType" := rfl
@[simp] theorem x_list (d : D) : listD h [d] = (seqOf h d).map .lst := rfl
@[simp] theorem x_dget (ks : List Key) (ds : List D) (s : Str) : dgetD h (.dic ks ds) (.str s) = valD (.inr s) ks ds := rfl
@[simp] theorem x_dgeti (ks : List Key) (ds : List D) (s : Int) : dgetD h (.dic ks ds) (.int s) = valD (.inl s) ks ds := rfl
@[simp] theorem x_valD (k j : Key) (ks : List Key) (d : D) (ds : List D) : valD k (j :: ks) (d :: ds) = if j = k then some d else valD k ks ds := rfl
@[simp] theorem x_zipL0 (ys : List D) : zipL [] ys = [] := rfl
@[simp] theorem x_zipL1 (x y : D) (xs ys : List D) : zipL (x :: xs) (y :: ys) = .tup [x, y] :: zipL xs ys := rfl
@[simp] theorem x_zipL2 (xs : List D) : zipL xs [] = [] := by cases xs <;> rfl
@[simp] theorem x_all (xs : List D) : allD h [.lst xs] = (boolsOf xs).map fun bs => .bl (bs.all id) := rfl
@[simp] theorem x_any (xs : List D) : anyD h [.lst xs] = (boolsOf xs).map fun bs => .bl (bs.any id) := rfl
@[simp] theorem x_bools0 : boolsOf [] = some [] := rfl
@[simp] theorem x_bools1 (b : Bool) (r : List D) : boolsOf (.bl b :: r) = (boolsOf r).map (b :: ·) := rfl
end
theorem atI_of {α : Type} {xs : List α} {i : Int} {x : α} (h0 : 0 ≤ i) (e : xs[i.toNat]? = some x) : atI xs i = some x := by
  have hl := (List.getElem?_eq_some_iff.mp e).1
  unfold atI ixN
  rw [if_pos h0, if_pos (by omega)]
  exact e
@[simp] theorem atI_0 {α : Type} (x : α) (xs : List α) : atI (x :: xs) 0 = some x := atI_of (by decide) rfl
@[simp] theorem atI_1 {α : Type} (x y : α) (xs : List α) : atI (x :: y :: xs) 1 = some y := atI_of (by decide) rfl
@[simp] theorem atI_2 {α : Type} (x y z : α) (xs : List α) : atI (x :: y :: z :: xs) 2 = some z := atI_of (by decide) rfl
@[simp] theorem atI_3 {α : Type} (x y z a : α) (xs : List α) : atI (x :: y :: z :: a :: xs) 3 = some a := atI_of (by decide) rfl
@[simp] theorem atI_4 {α : Type} (x y z a b : α) (xs : List α) : atI (x :: y :: z :: a :: b :: xs) 4 = some b := atI_of (by decide) rfl
@[simp] theorem atI_5 {α : Type} (x y z a b c : α) (xs : List α) : atI (x :: y :: z :: a :: b :: c :: xs) 5 = some c := atI_of (by decide) rfl
@[simp] theorem atI_6 {α : Type} (x y z a b c d : α) (xs : List α) : atI (x :: y :: z :: a :: b :: c :: d :: xs) 6 = some d := atI_of (by decide) rfl
@[simp] theorem atI_7 {α : Type} (x y z a b c d e : α) (xs : List α) : atI (x :: y :: z :: a :: b :: c :: d :: e :: xs) 7 = some e := atI_of (by decide) rfl
@[simp] theorem atI_m1 {α : Type} (xs : List α) : atI xs (-1) = xs[xs.length - 1]? := by
  cases xs with
  | nil => rfl
  | cons x xs =>
    unfold atI ixN
    rw [if_neg (by decide), if_pos (by simp; omega)]
    have : ((-1 : Int) + ((x :: xs).length : Nat)).toNat = (x :: xs).length - 1 := by simp; omega
    rw [this]
    rfl
@[simp] theorem atI_m2 {α : Type} (x y : α) (xs : List α) : atI (x :: y :: xs) (-2) = (x :: y :: xs)[xs.length]? := by
  unfold atI ixN
  rw [if_neg (by decide), if_pos (by simp; omega)]
  have : ((-2 : Int) + ((x :: y :: xs).length : Nat)).toNat = xs.length := by simp; omega
  rw [this]
  rfl
theorem at_set {h : List Ob} {k : Nat} {o : Ob} (q : h[k]? = some o) (o' : Ob) : (h.set k o')[k]? = some o' := by
  have hl := (List.getElem?_eq_some_iff.mp q).1
  simp [hl]
theorem map_toNat : ∀ {xs ys : List Char}, xs.map Char.toNat = ys.map Char.toNat → xs = ys
  | [], [], _ => rfl
  | x :: xs, y :: ys, e => by
    rw [List.map_cons, List.map_cons, List.cons.injEq] at e
    rw [map_toNat e.2, show x = y from Char.ext (UInt32.toNat_inj.mp e.1)]
@[simp] theorem ofS_inj (a b : String) : (Str.ofString a = Str.ofString b) = (a = b) := by
  refine propext ⟨fun e => ?_, fun e => by rw [e]⟩
  rw [Str.ofString_eq_toList, Str.ofString_eq_toList, Str.mk.injEq] at e
  exact String.toList_injective (map_toNat (by simpa using e))
@[simp] theorem x_look (k a : Str) (b : D) (l : List (Str × D)) : List.lookup k ((a, b) :: l) = if k = a then some b else List.lookup k l := by
  rw [List.lookup_cons]
  by_cases c : k = a
  · simp [c]
  · rw [if_neg c, beq_eq_false_iff_ne.mpr c]
@[simp] theorem ok_lit (s : String) : PyData.strOk (Str.ofString s) = true := by
  rw [Str.ofString_eq_toList]
  unfold PyData.strOk
  rw [Array.all_eq_true]
  intro i hi
  simp only [List.getElem_toArray, List.getElem_map, decide_eq_true_eq]
  have := (s.toList[i]'(by simpa using hi)).valid
  unfold UInt32.isValidChar Nat.isValidChar at this
  show (s.toList[i]'(by simpa using hi)).val.toNat < 1114112
  omega
def flatS : D → Bool
  | .str x => PyData.strOk x
  | .int _ => true
  | .bl _ => true
  | .non => true
  | _ => false
def flatP : D → PyData
  | .str x => .str x
  | .int i => .int i
  | .bl b => .bool b
  | _ => .none
theorem flatP_to {go : Nat → Option PyData} {d : D} (f : flatS d = true) : toPW go d = some (flatP d) ∧ (flatP d).canLay0 = true ∧ (flatP d).depth = 0 := by
  cases d with
  | str x => exact ⟨by simp [toPW, flatP], by simpa [flatP, PyData.canLay0, flatS] using f, by simp [flatP, PyData.depth]⟩
  | int i => exact ⟨by simp [toPW, flatP], by simp [flatP, PyData.canLay0], by simp [flatP, PyData.depth]⟩
  | bl i => exact ⟨by simp [toPW, flatP], by simp [flatP, PyData.canLay0], by simp [flatP, PyData.depth]⟩
  | non => exact ⟨by simp [toPW, flatP], by simp [flatP, PyData.canLay0], by simp [flatP, PyData.depth]⟩
  | _ => cases f
theorem flatPs_to {go : Nat → Option PyData} : ∀ {xs : List D}, xs.all flatS = true → Fv.toPs go xs = some (xs.map flatP) ∧ PyData.canLayAll0 (xs.map flatP) = true ∧ PyData.depthAll (xs.map flatP) = 0
  | [], _ => ⟨by simp [Fv.toPs], by simp [PyData.canLayAll0], by simp [PyData.depthAll]⟩
  | x :: xs, f => by
    rw [List.all_cons, Bool.and_eq_true] at f
    obtain ⟨a1, a2, a3⟩ := flatP_to (go := go) f.1
    obtain ⟨b1, b2, b3⟩ := flatPs_to (go := go) f.2
    exact ⟨by simp [Fv.toPs, a1, b1], by simp [PyData.canLayAll0, a2, b2], by simp [PyData.depthAll, a3, b3]⟩
theorem eqv_nil (xs : List D) : PyData.eqvAll (xs.map flatP) [] = xs.isEmpty := by cases xs <;> simp [PyData.eqvAll]
theorem eq_lnil {h : List Ob} {xs : List D} (f : xs.all flatS = true) : eqD h (.lst xs) (.lst []) = some (.bl xs.isEmpty) := by
  obtain ⟨a1, a2, a3⟩ := flatPs_to (go := goN h 3) f
  simp [eqD, eqF, dataOf, toPW, a1, Fv.toPs, SeqAt.shaped, PyData.canLay0, PyData.canLayAll0, a2, PyData.depth, PyData.depthAll, a3, PyData.eqv, eqv_nil]
mutual
theorem fz_low {go : D → Option D} {h : List Ob} {n : Nat} : ∀ {d : D}, low n d = true → fzW go h n d = some d
  | .ref k, l => by
    have : k < n := by simpa [low] using l
    simp [fzW, this]
  | .tup xs, l => by
    have := fzs_low (go := go) (h := h) (xs := xs) (n := n) (by simpa [low] using l)
    simp [fzW, this]
  | .lst xs, l => by
    have := fzs_low (go := go) (h := h) (xs := xs) (n := n) (by simpa [low] using l)
    simp [fzW, this]
  | .scr xs, l => by
    have := fzs_low (go := go) (h := h) (xs := xs) (n := n) (by simpa [low] using l)
    simp [fzW, this]
  | .clo k xs, l => by
    have := fzs_low (go := go) (h := h) (xs := xs) (n := n) (by simpa [low] using l)
    simp [fzW, this]
  | .cla k a cl c ws xs, l => by
    have := fzs_low (go := go) (h := h) (xs := xs) (n := n) (by simpa [low] using l)
    simp [fzW, this]
  | .dic ks xs, l => by
    have := fzs_low (go := go) (h := h) (xs := xs) (n := n) (by simpa [low] using l)
    simp [fzW, this]
  | .obj c ns xs, l => by
    have := fzs_low (go := go) (h := h) (xs := xs) (n := n) (by simpa [low] using l)
    simp [fzW, this]
  | .non, _ => by simp [fzW]
  | .bl _, _ => by simp [fzW]
  | .int _, _ => by simp [fzW]
  | .str _, _ => by simp [fzW]
  | .typ _, _ => by simp [fzW]
  | .nd _, _ => by simp [fzW]
  | .fn _ _, _ => by simp [fzW]
theorem fzs_low {go : D → Option D} {h : List Ob} {n : Nat} : ∀ {xs : List D}, lows n xs = true → fzs go h n xs = some xs
  | [], _ => by simp [fzs]
  | x :: xs, l => by
    have l' : low n x = true ∧ lows n xs = true := by simpa [lows] using l
    simp [fzs, fz_low l'.1, fzs_low l'.2]
end
theorem mapO_low {h : List Ob} {n m : Nat} : ∀ {xs : List D}, lows n xs = true → mapO (fzN h n (m + 1)) xs = some xs
  | [], _ => by simp [mapO]
  | x :: xs, l => by
    have l' : low n x = true ∧ lows n xs = true := by simpa [lows] using l
    have e1 : fzN h n (m + 1) x = some x := fz_low l'.1
    simp [mapO, e1, mapO_low l'.2]
mutual
theorem low_zero {n : Nat} : ∀ {d : D}, low 0 d = true → low n d = true
  | .ref k, l => by simp [low] at l
  | .tup xs, l => by simp only [low] at l ⊢; exact lows_zero l
  | .lst xs, l => by simp only [low] at l ⊢; exact lows_zero l
  | .scr xs, l => by simp only [low] at l ⊢; exact lows_zero l
  | .clo _ xs, l => by simp only [low] at l ⊢; exact lows_zero l
  | .cla _ _ _ _ _ xs, l => by simp only [low] at l ⊢; exact lows_zero l
  | .dic ks xs, l => by simp only [low] at l ⊢; exact lows_zero l
  | .obj c ns xs, l => by simp only [low] at l ⊢; exact lows_zero l
  | .non, _ => by simp [low]
  | .bl _, _ => by simp [low]
  | .int _, _ => by simp [low]
  | .str _, _ => by simp [low]
  | .typ _, _ => by simp [low]
  | .nd _, _ => by simp [low]
  | .fn _ _, _ => by simp [low]
theorem lows_zero {n : Nat} : ∀ {xs : List D}, lows 0 xs = true → lows n xs = true
  | [], _ => by simp [lows]
  | x :: xs, l => by
    have l' : low 0 x = true ∧ lows 0 xs = true := by simpa [lows] using l
    simp [lows, low_zero l'.1, lows_zero l'.2]
end
theorem drop_ok {f : M D} {e : En} {t : List Ob} {d d' : D} (q : f e = .ok d ⟨e.ρ, e.h ++ t⟩) (z : fz (e.h ++ t) e.h.length d = some d') : dropM f e = .ok d' e := by
  unfold dropM
  rw [q]
  dsimp only
  rw [if_pos ⟨drops_app, by simp, rfl⟩, z]
  simp
theorem drop_lst {f : M D} {e : En} {xs : List D} (q : f e = .ok (.ref e.h.length) ⟨e.ρ, e.h ++ [.lst xs]⟩) (l : lows 0 xs = true) : dropM f e = .ok (.lst xs) e := by
  refine drop_ok q ?_
  show fzW _ _ _ _ = _
  simp [fzW, mapO_low (lows_zero l)]
theorem lc_all {t : Tg} {tt : M Bool} {f : M D} {ρ : List (Option D)} {h : List Ob} {g : D → D} : ∀ {ds acc : List D}, acc.length + ds.length ≤ 1000000 →
    (∀ d ∈ ds, ∃ ρ1, t.put d ρ = some ρ1 ∧ ∀ h', tt ⟨ρ1, h'⟩ = .ok true ⟨ρ1, h'⟩ ∧ f ⟨ρ1, h'⟩ = .ok (g d) ⟨ρ1, h'⟩) → lcL t tt f ρ h.length ds (h ++ [.lst acc]) = some (h ++ [.lst (acc ++ ds.map g)])
  | [], acc, _, _ => by simp [lcL]
  | d :: ds, acc, hl, k => by
    obtain ⟨ρ1, h1, h2⟩ := k d (by simp)
    obtain ⟨h3, h4⟩ := h2 (h ++ [.lst acc])
    have hl' : acc.length + (ds.length + 1) ≤ 1000000 := by simpa using hl
    have := lc_all (t := t) (tt := tt) (f := f) (ρ := ρ) (h := h) (g := g) (ds := ds) (acc := acc ++ [g d]) (by simp; omega) fun d' hd => k d' (by simp [hd])
    unfold lcL
    rw [h1]
    dsimp only
    rw [h3]
    dsimp only
    rw [h4]
    dsimp only
    rw [at_new0]
    dsimp only
    rw [if_pos (by omega), set_new0, this]
    simp
theorem drop_lc {t : Tg} {vs : List Nat} {fi : M (List D)} {tt : M Bool} {f : M D} {e : En} {ds : List D} {g : D → D} (qi : fi e = .ok ds e) (hl : ds.length ≤ 1000000)
    (k : ∀ d ∈ ds, ∃ ρ1, t.put d (wipeD e.ρ vs) = some ρ1 ∧ ∀ h', tt ⟨ρ1, h'⟩ = .ok true ⟨ρ1, h'⟩ ∧ f ⟨ρ1, h'⟩ = .ok (g d) ⟨ρ1, h'⟩) (l : lows 0 (ds.map g) = true) : dropM (lcP t vs fi tt f) e = .ok (.lst (ds.map g)) e := by
  refine drop_lst ?_ l
  unfold lcP bnd
  rw [qi]
  dsimp only
  rw [lc_all (g := g) (by simpa using hl) k]
  simp
end Fv
set_option Elab.async false
set_option linter.all false
set_option maxRecDepth 100000
set_option maxHeartbeats 4000000
set_option autoImplicit false
namespace Fv
open PySem PySem.Spec PyProof.Rows L2 Bm
/-- which places a slice with a step takes -/
def stepIx (n : Nat) (st : Option Int) : List Nat := sliceRange (sliceBounds none none st n).1 (sliceBounds none none st n).2.1 (sliceBounds none none st n).2.2
def stepX {α : Type} (xs : List α) (st : Option Int) : List α := (stepIx xs.length st).filterMap (xs[·]?)
def tSlS (K : PySem.W.Frag) (te : TE) (ts : TO) : TE := fun σ H Q => te σ H fun x H1 => ts σ H1 fun st H2 => st ≠ some 0 ∧ ∃ a xs, x = .ref a ∧ SqL K H2 a xs ∧ ∀ p, H2 p = none → Q (.ref p) (upd H2 p (.lst (stepX xs st)))
def stepM (fx : M D) (fk : M (Option Int)) : M Ob := bnd fx fun x => bnd fk fun k => lft fun h => match lsqOf h x with
  | some xs => if k ≠ some 0 then some (.lst (stepX xs k)) else none
  | none => none
def lrg1 (f : M D) : M Ob := bnd f fun x => lft fun _ => match x with
  | .int j => if 0 ≤ j ∧ j ≤ 16777216 then some (.lst (rangeL 0 j.toNat)) else none
  | _ => none
end Fv
set_option Elab.async false
set_option linter.all false
set_option maxRecDepth 100000
set_option maxHeartbeats 4000000
set_option autoImplicit false
namespace Fv
open PySem PySem.Spec PyProof.Rows L2 Bm
def Chk (h : List Ob) (ch : List (D × List D)) : Prop := ∀ p ∈ ch, lsqOf h p.1 = some p.2
structure ItC (K : PySem.W.Frag) (G : Hp) (ι : List Addr) (J : It) (ds : List D) (ch : List (D × List D)) : Prop where
  go : ∀ (G' : Hp) (ι' : List Addr) (H : Hp) (h : List Ob), Up G ι G' ι' → Hs K G' ι' H h → Chk h ch → ∀ (i : Nat) d, ds[i]? = some d → J.go i H ∧ ∀ x H', J.yld i H x H' → ∃ G'', Same G' G'' ∧ Same H H' ∧ Hs K G'' ι' H' h ∧ RD K G'' ι' d x
  stop : ∀ (G' : Hp) (ι' : List Addr) (H : Hp) (h : List Ob), Up G ι G' ι' → Hs K G' ι' H h → Chk h ch → J.stop ds.length H
theorem ItC.up {K : PySem.W.Frag} {G G' : Hp} {ι ι' : List Addr} {J : It} {ds : List D} {ch : List (D × List D)} (a : ItC K G ι J ds ch) (u : Up G ι G' ι') : ItC K G' ι' J ds ch :=
  ⟨fun G2 ι2 H h u2 s c i d e => a.go G2 ι2 H h (u.trans u2) s c i d e, fun G2 ι2 H h u2 s c => a.stop G2 ι2 H h (u.trans u2) s c⟩
theorem ItF.toC {K : PySem.W.Frag} {G : Hp} {ι : List Addr} {J : It} {ds : List D} (a : ItF K G ι J ds) : ItC K G ι J ds [] :=
  ⟨fun G' ι' H h u s _ => a.go G' ι' H h u s, fun G' ι' H h u s _ => a.stop G' ι' H h u s⟩
def tFIC (C : Ct) (f : M (List D × List (D × List D))) : TI := fun σ H R => ∃ G ι e, Ok C.K C.T G ι H σ e ∧ PX C G ι σ (f e) fun dc _ G' ι' H' => ∀ J, ItC C.K G' ι' J dc.1 dc.2 → R J H'
open Classical in
noncomputable def forC (b : D → En → Option En) (body : M Fl) (ch : List (D × List D)) : List D → M Fl
  | [], e => if Chk e.h ch then .ok .nx e else .stuck
  | d :: ds, e => if Chk e.h ch then match b d e with
    | some e1 => match body e1 with
      | .ok .nx e2 => forC b body ch ds e2
      | .ok .ct e2 => forC b body ch ds e2
      | .ok .bk e2 => .ok .nx e2
      | r => r
    | none => .stuck
    else .stuck
noncomputable def forMC (fi : M (List D × List (D × List D))) (b : D → En → Option En) (body : M Fl) : M Fl := bnd fi fun dc => forC b body dc.2 dc.1
section
variable {X : Cx} {C : Ct}
end
section
variable {K : PySem.W.Frag} {G : Hp} {ι : List Addr}
theorem itELC {a : Addr} {d : D} {xs : List D} (r : RD K G ι d (.ref a)) : ItC K G ι (Ite K a) (enumL xs) [(d, xs)] := by
  have key : ∀ {G' : Hp} {ι' : List Addr} {H : Hp} {h : List Ob}, Up G ι G' ι' → Hs K G' ι' H h → Chk h [(d, xs)] → ∃ vs, SqL K H a vs ∧ RDs K G' ι' xs vs := fun u s c => by
    obtain ⟨b, vs, e, h1, h2⟩ := lsq_rd s (r.up u) (c (d, xs) (List.mem_singleton.mpr rfl))
    cases e
    exact ⟨vs, h1, h2⟩
  refine ⟨fun G' ι' H h u s c i d e => ?_, fun G' ι' H h u s c => ?_⟩
  · obtain ⟨vs, hs, rr⟩ := key u s c
    unfold enumL at e
    rw [List.getElem?_mapIdx] at e
    obtain ⟨x, e1, rfl⟩ := Option.map_eq_some_iff.mp e
    obtain ⟨v, h1, h2⟩ := rr.get e1
    refine ⟨⟨vs, v, hs, h1⟩, fun z H' y => ?_⟩
    obtain ⟨T, x', rfl, n, rfl, y⟩ := y
    have e2 := y vs hs
    rw [h1] at e2
    cases e2
    exact new_pair s n (.int _) h2
  · obtain ⟨vs, hs, rr⟩ := key u s c
    exact ⟨vs, hs, by rw [rr.1]; unfold enumL; simp⟩
end
def seqC (f : M D) : M (List D × List (D × List D)) := bnd f fun d => lft fun h => match d with
  | .tup xs => some (xs, [])
  | d => (lsqOf h d).map fun xs => (xs, [(d, xs)])
def enumC (f : M (List D)) : M (List D × List (D × List D)) := bnd f fun ds => lft fun h => match ds with
  | [.tup xs] => some (enumL xs, [])
  | [d] => (lsqOf h d).map fun xs => (enumL xs, [(d, xs)])
  | _ => none
def zipC (f : M (List D)) : M (List D × List (D × List D)) := bnd f fun ds => lft fun h => match ds with
  | [x, y] => match lsqOf h x, lsqOf h y with
    | some xs, some ys => some (zipL xs ys, [(x, xs), (y, ys)])
    | _, _ => none
  | _ => none
section
variable {X : Cx} {C : Ct} {tg it : Expr}
theorem ic_enum {f : M (List D)} (p : PI X tg it (iEnumA C.K (tFA C f))) : PI X tg it (tFIC C (enumC f)) := imI p fun σ H R h => by
  obtain ⟨G, ι, en, k, h⟩ := h
  refine ⟨G, ι, en, k, PX.imp h.bnd fun ds e1 G1 ι1 H1 u1 k1 q1 vs r => ?_⟩
  obtain ⟨dc, hd, q⟩ := q1.lft
  split at hd
  · rename_i xs
    cases hd
    obtain ⟨v, rfl, r1⟩ := r.one_of
    cases r1 with
    | tup hh l ee => exact ⟨_, _, rfl, .inr ⟨sqT_at (fun o z => k1.hs.s _ o z) hh, q.now k1 _ (itET hh ⟨l, ee⟩).toC⟩⟩
  · rename_i d _
    obtain ⟨v, rfl, r1⟩ := r.one_of
    obtain ⟨ys, hy, rfl⟩ := Option.map_eq_some_iff.mp hd
    obtain ⟨a, us, rfl, h1, h2⟩ := lsq_rd k1.hs r1 hy
    exact ⟨a, us, rfl, .inl ⟨h1, q.now k1 _ (itELC r1)⟩⟩
  · cases hd
end
end Fv
set_option Elab.async false
set_option linter.all false
set_option maxRecDepth 100000
set_option maxHeartbeats 4000000
set_option autoImplicit false
namespace Fv
open PySem PySem.Spec PyProof.Rows L2 Bm
section
variable {h : List Ob}
@[simp] theorem chk_nil : Chk h [] = True := by simp [Chk]
@[simp] theorem chk_cons (d : D) (xs : List D) (ch : List (D × List D)) : Chk h ((d, xs) :: ch) = (lsqOf h d = some xs ∧ Chk h ch) := by simp [Chk]
@[simp] theorem x_forMC (fi : M (List D × List (D × List D))) (b : D → En → Option En) (body : M Fl) (e : En) : forMC fi b body e = bnd fi (fun dc => forC b body dc.2 dc.1) e := rfl
open Classical in
@[simp] theorem x_forC0 (b : D → En → Option En) (body : M Fl) (ch : List (D × List D)) (e : En) : forC b body ch [] e = if Chk e.h ch then .ok .nx e else .stuck := rfl
open Classical in
@[simp] theorem x_forC1 (b : D → En → Option En) (body : M Fl) (ch : List (D × List D)) (d : D) (ds : List D) (e : En) : forC b body ch (d :: ds) e = if Chk e.h ch then (match b d e with
    | some e1 => match body e1 with
      | .ok .nx e2 => forC b body ch ds e2
      | .ok .ct e2 => forC b body ch ds e2
      | .ok .bk e2 => .ok .nx e2
      | r => r
    | none => .stuck)
    else .stuck := rfl
@[simp] theorem x_zipC (f : M (List D)) (e : En) : zipC f e = bnd f (fun ds => lft fun h => match ds with
  | [x, y] => match lsqOf h x, lsqOf h y with
    | some xs, some ys => some (zipL xs ys, [(x, xs), (y, ys)])
    | _, _ => none
  | _ => none) e := rfl
@[simp] theorem x_augI (g : List Ob → D → D → Option D) (fo fi f : M D) (e : En) : augI g fo fi f e = bnd fo (fun o => bnd fi fun i => bnd (lft fun h => match lstOf h o with
    | some xs => match i with
      | .int j => atI xs j
      | _ => none
    | none => none) fun x => bnd f fun y => bnd (lft fun h => g h x y) fun v e => match setItem e.h o i v with
  | some h' => .ok .nx ⟨e.ρ, h'⟩
  | none => .stuck) e := rfl
end
end Fv
set_option Elab.async false
set_option linter.all false
set_option maxRecDepth 100000
set_option maxHeartbeats 4000000
set_option autoImplicit false
namespace Fv
open PySem PySem.Spec PyProof.Rows L2 Bm
theorem st_seq {f g : M Fl} {e e' : En} (q : f e = .ok .nx e') : seqM f g e = g e' := by simp [q]
theorem st_seqR {f g : M Fl} {e e' : En} {d : D} (q : f e = .ok (.rt d) e') : seqM f g e = .ok (.rt d) e' := by simp [q]
theorem st_if_t {c : M Bool} {f g : M Fl} {e e' : En} (q : c e = .ok true e') : ifS c f g e = f e' := by simp [q]
theorem st_if_f {c : M Bool} {f g : M Fl} {e e' : En} (q : c e = .ok false e') : ifS c f g e = g e' := by simp [q]
theorem st_set {f : M D} {i : Nat} {e e' : En} {d : D} (q : f e = .ok d e') : setM f (putS i) e = .ok .nx ⟨e'.ρ.set i (some d), e'.h⟩ := by simp [q]
theorem st_ret {f : M D} {e e' : En} {d : D} (q : f e = .ok d e') : retM f e = .ok (.rt d) e' := by simp [q]
theorem st_expr {f : M D} {e e' : En} {d : D} (q : f e = .ok d e') : exprM f e = .ok .nx e' := by simp [q]
theorem st_v {i : Nat} {ρ : List (Option D)} {h : List Ob} {d : D} (q : ρ[i]? = some (some d)) : eV i ⟨ρ, h⟩ = .ok d ⟨ρ, h⟩ := by simp [q]
theorem st_arg0 {e : En} : nilM e = .ok [] e := rfl
theorem st_arg {f : M D} {g : M (List D)} {e e1 e2 : En} {d : D} {ds : List D} (q : f e = .ok d e1) (r : g e1 = .ok ds e2) : consM f g e = .ok (d :: ds) e2 := by simp [q, r]
theorem st_call {Φ : Fun} {dds ds : List D} {fa : M (List D)} {e e1 : En} {d : D} {h' : List Ob} (q : fa e = .ok ds e1) (c : Φ (ds ++ dds) e1.h = .ok d h') : callM Φ dds fa e = .ok d ⟨e1.ρ, h'⟩ := by simp [q, c]
theorem st_call1 {Φ : Fun} {a : Nat} {ρ : List (Option D)} {h h' : List Ob} {x d : D} (qa : ρ[a]? = some (some x)) (c : Φ [x] h = .ok d h') : callM Φ [] (consM (eV a) nilM) ⟨ρ, h⟩ = .ok d ⟨ρ, h'⟩ := st_call (st_arg (st_v qa) st_arg0) c
theorem st_e2 {g : List Ob → D → D → Option D} {f1 f2 : M D} {e e1 e2' : En} {x y z : D} (q1 : f1 e = .ok x e1) (q2 : f2 e1 = .ok y e2') (m : g e2'.h x y = some z) : e2 g f1 f2 e = .ok z e2' := by
  simp [q1, q2, m]
theorem st_bM {f : M D} {e e' : En} {b : Bool} (q : f e = .ok (.bl b) e') : bM f e = .ok b e' := by
  simp [q]
theorem st_be2 {g : List Ob → D → D → Option D} {f1 f2 : M D} {e e1 e2' : En} {x y : D} {b : Bool} (q1 : f1 e = .ok x e1) (q2 : f2 e1 = .ok y e2') (m : g e2'.h x y = some (.bl b)) : bM (e2 g f1 f2) e = .ok b e2' := st_bM (st_e2 q1 q2 m)
theorem st_not {c : M Bool} {e e' : En} {b : Bool} (q : c e = .ok b e') : notM c e = .ok (!b) e' := by simp [q]
theorem st_or_t {c d : M Bool} {e e' : En} (q : c e = .ok true e') : orM c d e = .ok true e' := by simp [q]
theorem st_or_f {c d : M Bool} {e e' : En} (q : c e = .ok false e') : orM c d e = d e' := by simp [q]
theorem st_and_t {c d : M Bool} {e e' : En} (q : c e = .ok true e') : andM c d e = d e' := by simp [q]
theorem st_and_f {c d : M Bool} {e e' : En} (q : c e = .ok false e') : andM c d e = .ok false e' := by simp [q]
theorem st_len {f : M D} {e e' : En} {xs : List D} (q : f e = .ok (.lst xs) e') : cN lenD (consM f nilM) e = .ok (.int (xs.length : Nat)) e' := by simp [q]
theorem st_lenT {f : M D} {e e' : En} {xs : List D} (q : f e = .ok (.tup xs) e') : cN lenD (consM f nilM) e = .ok (.int (xs.length : Nat)) e' := by simp [q]
theorem st_lenO {f : M D} {e e' : En} {d : D} {n : Int} (q : f e = .ok d e') (l : lenD e'.h [d] = some (.int n)) : cN lenD (consM f nilM) e = .ok (.int n) e' := by simp [q, l]
theorem st_for {fi : M (List D)} {b : D → En → Option En} {body : M Fl} {ds : List D} {e e1 : En} {r : Res Fl} (h : fi e = .ok ds e1) (k : forL b body ds e1 = r) : forM fi b body e = r := by rw [x_forM, x_bnd, h]; exact k
theorem st_def {n : Nat} {B : M Fl} {ds : List D} {ρ : List (Option D)} {h : List Ob} {d : D} {e : En} (st : start0 n ds = ρ) (q : B ⟨ρ, h⟩ = .ok (.rt d) e) : defF n B ds h = .ok d e.h := by
  subst st
  unfold defF
  rw [q]
theorem st_rngI {f : M (List D)} {e e1 : En} {j : Int} (h : f e = .ok [.int j] e1) (h0 : 0 ≤ j) (h1 : j ≤ 1000000) : rng1 f e = .ok (rangeL 0 j.toNat) e1 := by
  have hr : -4611686018427387904 ≤ j ∧ j < 4611686018427387904 := by omega
  simp [h, hr]
theorem st_seqX {f g : M Fl} {e e' : En} {x : Str} {fs : List (Str × D)} (q : f e = .ex x fs e') : seqM f g e = .ex x fs e' := by simp [q]
theorem st_exprX {f : M D} {e e' : En} {x : Str} {fs : List (Str × D)} (q : f e = .ex x fs e') : exprM f e = .ex x fs e' := by simp [q]
theorem st_callX {Φ : Fun} {dds ds : List D} {fa : M (List D)} {e e1 : En} {x : Str} {fs : List (Str × D)} {h' : List Ob} (q : fa e = .ok ds e1) (c : Φ (ds ++ dds) e1.h = .ex x fs h') : callM Φ dds fa e = .ex x fs ⟨e1.ρ, h'⟩ := by simp [q, c]
theorem st_call1X {Φ : Fun} {a : Nat} {ρ : List (Option D)} {h h' : List Ob} {y : D} {x : Str} {fs : List (Str × D)} (qa : ρ[a]? = some (some y)) (c : Φ [y] h = .ex x fs h') : callM Φ [] (consM (eV a) nilM) ⟨ρ, h⟩ = .ex x fs ⟨ρ, h'⟩ := st_callX (st_arg (st_v qa) st_arg0) c
theorem st_kind {f : M D} {e e' : En} {d : D} (q : f e = .ok d e') : kindM f e = .ok d e' := by
  unfold kindM
  rw [q]
theorem st_kindX {f : M D} {e e' : En} {x : Str} {fs : List (Str × D)} {d : D} (q : f e = .ex x fs e') (k : kindD x fs = some d) : kindM f e = .ok d e' := by
  unfold kindM
  rw [q]
  dsimp only
  rw [k]
theorem st_defX {n : Nat} {B : M Fl} {ds : List D} {ρ : List (Option D)} {h : List Ob} {x : Str} {fs : List (Str × D)} {e : En} (st : start0 n ds = ρ) (q : B ⟨ρ, h⟩ = .ex x fs e) : defF n B ds h = .ex x fs e.h := by
  subst st
  unfold defF
  rw [q]
end Fv
set_option Elab.async false
set_option linter.all false
set_option maxRecDepth 100000
set_option maxHeartbeats 4000000
set_option autoImplicit false
namespace Fv
open PySem PySem.Spec PyProof.Rows L2 Bm
open Classical in
noncomputable def lcLC (ch : List (D × List D)) (t : Tg) (tt : M Bool) (f : M D) (ρ : List (Option D)) (n : Nat) : List D → List Ob → Option (List Ob)
  | [], h => if Chk h ch then some h else none
  | d :: ds, h => if Chk h ch then match t.put d ρ with
    | none => none
    | some ρ1 => match tt ⟨ρ1, h⟩ with
      | .ok true e2 => match f e2 with
        | .ok y e3 => match e3.h[n]? with
          | some (.lst acc) => if acc.length < 1000000 then lcLC ch t tt f ρ n ds (e3.h.set n (.lst (acc ++ [y]))) else none
          | _ => none
        | _ => none
      | .ok false e2 => lcLC ch t tt f ρ n ds e2.h
      | _ => none
    else none
noncomputable def lcPC (t : Tg) (vs : List Nat) (fi : M (List D × List (D × List D))) (tt : M Bool) (f : M D) : M D := bnd fi fun dc e => match lcLC dc.2 t tt f (wipeD e.ρ vs) e.h.length dc.1 (e.h ++ [.lst []]) with
  | some h' => .ok (.ref e.h.length) ⟨e.ρ, h'⟩
  | none => .stuck
theorem imLcPC {C : Ct} {t : Tg} {vs : List Nat} {fi : M (List D × List (D × List D))} {tt : M Bool} {f : M D} (hv : ∀ i ∈ t.slots, i ∈ vs) (σ : L2.St) (H : Hp) (Q : VK) (h : tF C (lcPC t vs fi tt f) σ H Q) : tLc (tFIC C fi) (t.g C.K) (tFB C.nox tt) (tF C.nox f) vs σ H Q := by
  obtain ⟨G, ι, en, k, h⟩ := h
  refine ⟨G, ι, en, k, PX.imp h.bnd fun dc e1 G1 ι1 H1 u1 k1 q1 J hJ Dd nD => ?_⟩
  obtain ⟨ds, ch⟩ := dc
  dsimp only at hJ q1
  have mD := k1.hs.not_mem nD
  have gD := k1.hs.gnone nD
  have kt : Ok C.K C.T G1 ι1 (upd H1 Dd (.lst [])) σ e1 := k1.temp nD
  have k0 := kt.pub gD mD (x := .lst []) ⟨[], upd_same, .nil⟩
  have u0 : Up G1 ι1 G1 (ι1 ++ [Dd]) := up_snoc
  have hn : e1.h.length = ι1.length := k1.hs.len.symm
  have hat : (ι1 ++ [Dd])[e1.h.length]? = some Dd := by
    rw [hn, List.getElem?_append_right (Nat.le_refl _), Nat.sub_self]
    rfl
  let W : Nat → Nat → Hp → Prop := fun i m H => ∃ G ι h, Up G1 (ι1 ++ [Dd]) G ι ∧ Hs C.K G ι H h ∧ LamX.Tabs C.T H ∧ i ≤ ds.length ∧ m = ds.length - i ∧ PX C G ι σ (match lcLC ch t tt f (wipeD e1.ρ vs) e1.h.length (ds.drop i) h with
    | some h' => .ok (D.ref e1.h.length) ⟨e1.ρ, h'⟩
    | none => .stuck) fun d _ G' ι' H' => ∀ v, RD C.K G' ι' d v → Q v H'
  refine ⟨W, ⟨ds.length, G1, ι1 ++ [Dd], e1.h ++ [.lst []], Up.refl, k0.hs, k0.tb, Nat.zero_le _, rfl, PX.up q1 u0⟩, ?_⟩
  rintro i m H2 ⟨G2, ι2, h2, u2, s2, t2, hi, hm, q2⟩
  have hD : ι2[e1.h.length]? = some Dd := pre_get u2.i hat
  by_cases hlt : i < ds.length
  · refine .inr ?_
    have hd : ds[i]? = some ds[i] := List.getElem?_eq_getElem hlt
    rw [List.drop_eq_getElem_cons hlt] at q2
    unfold lcLC at q2
    by_cases hch : Chk h2 ch
    case neg =>
      rw [if_neg hch] at q2
      exact q2.elim
    rw [if_pos hch] at q2
    obtain ⟨hgo, hy⟩ := (hJ.up (u0.trans u2)).go G2 ι2 H2 h2 Up.refl s2 hch i _ hd
    refine ⟨hgo, fun H' => ∃ m', m' < m ∧ W (i + 1) m' H', fun _ z => z, fun x H3 y => ?_⟩
    obtain ⟨G3, g3, s3, hs3, r3⟩ := hy x H3 y
    have u3 : Up G2 ι2 G3 ι2 := ⟨g3, List.prefix_refl _⟩
    generalize ds[i] = d at q2 r3
    have slw : Sls C.K G3 ι2 (wipe σ vs) (wipeD e1.ρ vs) := (k1.sl.up ((u0.trans u2).trans u3)).wipe vs
    have step : ∀ {σ2 : L2.St} {ρ1 : List (Option D)}, wipe σ2 vs = wipe σ vs → Sls C.K G3 ι2 σ2 ρ1 → PX C G3 ι2 σ (match (match tt ⟨ρ1, h2⟩ with
      | .ok true e2 => match f e2 with
        | .ok y e3 => match e3.h[e1.h.length]? with
          | some (.lst acc) => if acc.length < 1000000 then lcLC ch t tt f (wipeD e1.ρ vs) e1.h.length (ds.drop (i + 1)) (e3.h.set e1.h.length (.lst (acc ++ [y]))) else none
          | _ => none
        | _ => none
      | .ok false e2 => lcLC ch t tt f (wipeD e1.ρ vs) e1.h.length (ds.drop (i + 1)) e2.h
      | _ => none) with
      | some h' => .ok (D.ref e1.h.length) ⟨e1.ρ, h'⟩
      | none => .stuck) (fun d _ G' ι' H' => ∀ v, RD C.K G' ι' d v → Q v H') → wipe σ2 vs = wipe σ vs ∧ tFB C.nox tt σ2 H3 fun b H3 =>
        if b = true then tF C.nox f σ2 H3 fun y H4 => ∃ acc, H4 Dd = some (.lst acc) ∧ acc.length < sizeLine ∧ ∃ m', m' < m ∧ W (i + 1) m' (upd H4 Dd (.lst (acc ++ [y]))) else ∃ m', m' < m ∧ W (i + 1) m' H3 := fun {σ2 ρ1} hw sl p => by
      refine ⟨hw, G3, ι2, ⟨ρ1, h2⟩, ⟨hs3, sl, t2.ext s3⟩, ?_⟩
      cases qt : tt ⟨ρ1, h2⟩ with
      | ok b e4 =>
        rw [qt] at p
        intro G4 ι4 H4 u4 k4
        cases b with
        | false =>
          exact iteF ⟨ds.length - (i + 1), by omega, G4, ι4, e4.h, (u2.trans u3).trans u4, k4.hs, k4.tb, hlt, rfl, PX.up p u4⟩
        | true =>
          refine iteT ⟨G4, ι4, e4, k4, ?_⟩
          dsimp only at p
          cases qf : f e4 with
          | ok y e5 =>
            rw [qf] at p
            intro G5 ι5 H5 u5 k5 v rv
            dsimp only at p
            split at p
            · rename_i h' hh
              split at hh
              · rename_i acc hacc
                split at hh
                · rename_i hlen
                  have hD5 : ι5[e1.h.length]? = some Dd := pre_get ((u3.trans u4).trans u5).i hD
                  obtain ⟨us, o1, o2⟩ := k5.hs.cell hD5 hacc
                  have ob : ObOk C.K G5 ι5 (upd H5 Dd (.lst (us ++ [v]))) Dd (.lst (acc ++ [y])) := ⟨_, upd_same, o2.append (.one rv)⟩
                  refine ⟨us, o1, by rw [o2.1]; exact Nat.lt_of_lt_of_le hlen (by decide), ds.length - (i + 1), by omega, G5, ι5, _, ((u2.trans u3).trans u4).trans u5, k5.hs.set hD5 ob, tabs_upd k5.tb o1 (fun _ z => by cases z) (fun _ z => by cases z), hlt, rfl, ?_⟩
                  rw [hh]
                  exact PX.up p (u4.trans u5)
                · cases hh
              · cases hh
            · exact p.elim
          | ex x fs e5 =>
            rw [qf] at p
            exact p.elim
          | stuck =>
            rw [qf] at p
            exact p.elim
      | ex x fs e4 =>
        rw [qt] at p
        exact p.elim
      | stuck =>
        rw [qt] at p
        exact p.elim
    cases t with
    | one j =>
      show _ ∧ _
      exact step (by rw [wipe_set (hv j List.mem_cons_self), wipe_idem]) (slw.set r3) (PX.up q2 u3)
    | tup is =>
      cases r3 with
      | tup hh ll qq =>
        rename_i a us xs
        have q2 : PX C G2 ι2 σ (match (match (if xs.length = is.length then some (putN is xs (wipeD e1.ρ vs)) else none) with
          | none => none
          | some ρ1 => (match tt ⟨ρ1, h2⟩ with
            | .ok true e2 => match f e2 with
              | .ok y e3 => match e3.h[e1.h.length]? with
                | some (.lst acc) => if acc.length < 1000000 then lcLC ch (.tup is) tt f (wipeD e1.ρ vs) e1.h.length (ds.drop (i + 1)) (e3.h.set e1.h.length (.lst (acc ++ [y]))) else none
                | _ => none
              | _ => none
            | .ok false e2 => lcLC ch (.tup is) tt f (wipeD e1.ρ vs) e1.h.length (ds.drop (i + 1)) e2.h
            | _ => none)) with
          | some h' => .ok (D.ref e1.h.length) ⟨e1.ρ, h'⟩
          | none => .stuck) fun d _ G' ι' H' => ∀ v, RD C.K G' ι' d v → Q v H' := q2
        by_cases hl : xs.length = is.length
        · rw [if_pos hl] at q2
          refine ⟨a, us, rfl, sqT_at (fun o z => hs3.s _ o z) hh, by rw [ll]; exact hl, gNames_ok (by rw [ll]; exact hl) ?_⟩
          exact step (by rw [wipe_setN (is := is) (fun i hi => hv i hi), wipe_idem]) (slw.setN ⟨ll, qq⟩) (PX.up q2 u3)
        · rw [if_neg hl] at q2
          exact q2.elim
      | _ => exact q2.elim
    | two i0 js =>
      cases r3 with
      | tup hh ll qq =>
        rename_i a us xs
        rcases xs with _ | ⟨d1, _ | ⟨d2, _ | ⟨d3, xs⟩⟩⟩
        · exact (show False from q2).elim
        · exact (show False from q2).elim
        · have rr : RDs C.K G3 ι2 [d1, d2] us := ⟨ll, qq⟩
          obtain ⟨v1, us1, rfl, ra, rr1⟩ := rr.inv_cons
          obtain ⟨v2, us3, rfl, rb, rr2⟩ := rr1.inv_cons
          obtain rfl := rr2.inv_nil
          clear rr rr1 rr2 qq
          cases rb with
          | tup hh2 ll2 qq2 =>
            rename_i a2 us2 xs2
            have q2 : PX C G2 ι2 σ (match (match (if xs2.length = js.length then some (putN js xs2 ((wipeD e1.ρ vs).set i0 (some d1))) else none) with
              | none => none
              | some ρ1 => (match tt ⟨ρ1, h2⟩ with
                | .ok true e2 => match f e2 with
                  | .ok y e3 => match e3.h[e1.h.length]? with
                    | some (.lst acc) => if acc.length < 1000000 then lcLC ch (.two i0 js) tt f (wipeD e1.ρ vs) e1.h.length (ds.drop (i + 1)) (e3.h.set e1.h.length (.lst (acc ++ [y]))) else none
                    | _ => none
                  | _ => none
                | .ok false e2 => lcLC ch (.two i0 js) tt f (wipeD e1.ρ vs) e1.h.length (ds.drop (i + 1)) e2.h
                | _ => none)) with
              | some h' => .ok (D.ref e1.h.length) ⟨e1.ρ, h'⟩
              | none => .stuck) fun d _ G' ι' H' => ∀ v, RD C.K G' ι' d v → Q v H' := q2
            by_cases hl : xs2.length = js.length
            · rw [if_pos hl] at q2
              refine ⟨a, _, rfl, sqT_at (fun o z => hs3.s _ o z) hh, rfl, v1, _, rfl, _, _, rfl, ⟨a2, us2, rfl, sqT_at (fun o z => hs3.s _ o z) hh2, by rw [ll2]; exact hl, gNames_ok (by rw [ll2]; exact hl) ⟨rfl, ?_⟩⟩⟩
              exact step (by rw [wipe_setN (is := js) (fun i hi => hv i (List.mem_cons_of_mem _ hi)), wipe_set (hv i0 List.mem_cons_self), wipe_idem]) ((slw.set ra).setN ⟨ll2, qq2⟩) (PX.up q2 u3)
            · rw [if_neg hl] at q2
              exact (show False from q2).elim
          | _ => exact (show False from q2).elim
        · cases d2 <;> exact (show False from q2).elim
      | _ => exact (show False from q2).elim
  · refine .inl ?_
    have hz : i = ds.length := by omega
    subst hz
    rw [List.drop_length] at q2
    unfold lcLC at q2
    by_cases hch : Chk h2 ch
    case neg =>
      rw [if_neg hch] at q2
      exact q2.elim
    rw [if_pos hch] at q2
    have k2 : Ok C.K C.T G2 ι2 H2 σ ⟨e1.ρ, h2⟩ := ⟨s2, k1.sl.up (u0.trans u2), t2⟩
    exact ⟨(hJ.up (u0.trans u2)).stop G2 ι2 H2 h2 Up.refl s2 hch, PX.now (a := D.ref e1.h.length) q2 k2 _ (.ref hD)⟩
section
variable {X : Cx} {C : Ct} {e : Expr}
theorem v_lcC {t : Tg} {vs : List Nat} {fi : M (List D × List (D × List D))} {tt : M Bool} {f : M D} (hv : ∀ i ∈ t.slots, i ∈ vs) (p : PE X e (tLc (tFIC C fi) (t.g C.K) (tFB C.nox tt) (tF C.nox f) vs)) : PE X e (tF C (lcPC t vs fi tt f)) := imE p (imLcPC hv)
end
end Fv
set_option Elab.async false
set_option linter.all false
set_option maxRecDepth 100000
set_option maxHeartbeats 4000000
set_option autoImplicit false
namespace LamY
open PySem PySem.Spec PyProof.Rows L2 LamX
section
variable {X : Cx} {pins : List (Addr × Obj)} {σ : L2.St} {H : Hp} {s : Shared}
theorem make {T : List (Addr × Str)} {c P : Addr} {params : Arguments} {body : Expr} {scope : Scope} {pos p0 : Pos} {i : Int} {j : Nat} {E : Value → Shared → Prop} {Q : Value → Shared → Prop} (I : Inv X pins σ H s) (TB : TabB X.base X.mg c P) (hcode : X.env.code = .ref c)
    (hm : (P, X.env.qual ++ "<lambda>") ∈ T) (hu : ∀ p ∈ T, p.1 = P → p.2 = X.env.qual ++ "<lambda>") (hT : Tabs T H) (hk0 : params.kw_defaults = []) (hd : params.defaults = [.Constant (.int i) j p0]) (hfree : ∀ y ∈ scope.names, y.2 = .free → ∃ c, X.env.cells.lookup y.1 = some c)
    (h : ∀ (f c' T0 : Addr) (dv doc pm ctv : Value) (H1 : Hp) (s' : Shared), Inv X pins σ H1 s' → ExtN H H1 → Tabs T H1 →
      s'.heap.get? f = some (PySem.W.kdv_obj "<lambda>" (X.env.qual ++ "<lambda>") params (.expr body) scope (cloFrom X.env.cells scope.names []) (.ref T0) doc pm c' ctv) → s'.heap.get? T0 = some (PySem.W.kdv_tup [dv]) → H1 T0 = none → T0 ∉ frs X.stack →
      H1 f = none → f ∉ frs X.stack → H1 c' = some (CodeO c' (X.env.qual ++ "<lambda>")) → Q (.ref f) s') :
    wpAny (model X.prog X.w) X.A (eval (.Lambda params body scope pos) X.env) Q E s := by
  obtain ⟨ps, hP, ht, ha⟩ := hT _ hm
  refine PySem.W.kdv_lam (by rw [hd]; rfl) hk0 ?_
  rw [hd]
  refine PySem.W.kdv_all1 (wpAny_Constant_int (PySem.W.kdv_all0 ?_))
  rw [makeFunction_eq]
  simp only [List.zip_nil_right, List.filterMap_nil, List.isEmpty_nil, if_true, pure_bind, List.isEmpty_cons, Bool.false_eq_true, if_false]
  refine wpAny_bind (wpAny_newTextTuple ?_)
  have J : Inv X pins σ H { s with heap := s.heap.push (PySem.W.kdv_tup [Value.int i s.toks]), toks := s.toks + 1 } := I.kept fun b o e => Heap.get?_push_of_some _ e
  have h0 : (s.heap.push (PySem.W.kdv_tup [Value.int i s.toks])).get? s.heap.objs.size = some (PySem.W.kdv_tup [Value.int i s.toks]) := Heap.get?_push_size _ rfl
  have n0 : H s.heap.objs.size = none := I.hok.fresh (Nat.le_refl _)
  have bP : (s.heap.push (PySem.W.kdv_tup [Value.int i s.toks])).BuiltinsAt X.mg P := TB.bm.keeps J.bk
  have hP' : (s.heap.push (PySem.W.kdv_tup [Value.int i s.toks])).get? P = some { cls := .none, data := .fields ps } := J.hok P _ hP
  have nofr0 : ∀ f, s.heap.objs.size ≤ f → f ∉ frs X.stack := fun f hf z => by
    rcases List.mem_cons.mp (I.stkSub _ z) with e | e
    · have h1 := I.lt
      rw [← e] at h1
      exact Nat.lt_irrefl _ (Nat.lt_of_lt_of_le h1 hf)
    · exact I.nofs hf e
  have nofr : ∀ f, (s.heap.push (PySem.W.kdv_tup [Value.int i s.toks])).objs.size ≤ f → f ∉ frs X.stack := fun f hf z => by
    rcases List.mem_cons.mp (J.stkSub _ z) with e | e
    · have h1 := J.lt
      rw [← e] at h1
      exact Nat.lt_irrefl _ (Nat.lt_of_lt_of_le h1 hf)
    · exact J.nofs hf e
  have lt0 : s.heap.objs.size < (s.heap.push (PySem.W.kdv_tup [Value.int i s.toks])).objs.size := Heap.lt_size h0
  cases hc : codeAmong pos ps.toList with
  | none =>
    refine PySem.W.kdv_makeTail (s := { s with heap := s.heap.push (PySem.W.kdv_tup [Value.int i s.toks]), toks := s.toks + 1 }) (mg := X.mg) (c := c) (P := P) (ps := ps) (closure_ok hfree) I.ok.glob (I.mod.glob.keeps J.bk) hcode (TB.code.keeps J.bk) hP' ht hc TB.gP bP fun c' ctv doc h' tk hx hge hlt hrec htb => ?_
    obtain ⟨c2, oc, vs, t, e2, hoc, hd, hv⟩ := hrec
    cases e2
    have hsz : (s.heap.push (PySem.W.kdv_tup [Value.int i s.toks])).objs.size ≤ h'.objs.size := Nat.le_trans hge (Nat.le_of_lt hlt)
    have nC : H c' = none := J.hok.fresh hge
    have I1 := inv_table (t' := tk) (more := #[rawInt pos.line, rawInt pos.col, .ref c']) (h' := h'.push (PySem.W.kdv_obj "<lambda>" (X.env.qual ++ "<lambda>") params (.expr body) scope (cloFrom X.env.cells scope.names []) (.ref s.heap.objs.size) doc ((X.mg "__name__").getD .none) c' ctv)) J hP
      (fun b o hb e => Heap.get?_push_of_some _ (hx b o hb e)) (Heap.get?_push_of_some _ htb) hge ⟨oc, vs, t, Heap.get?_push_of_some _ hoc, hd, hv⟩
    have hE : ExtN H (upd (upd H P (.tbl (ps ++ #[rawInt pos.line, rawInt pos.col, .ref c']))) c' (CodeO c' (X.env.qual ++ "<lambda>"))) := fun b o e n => by
      rw [upd_ne (ne_of_none e nC), upd_ne (fun z => n ps (Option.some.inj (e.symm.trans (by rw [z]; exact hP))))]
      exact e
    have eL : (ps ++ #[rawInt pos.line, rawInt pos.col, .ref c']).toList = ps.toList ++ [rawInt pos.line, rawInt pos.col, .ref c'] := by simp
    have nP0 : s.heap.objs.size ≠ P := fun z => by
      rw [z, hP] at n0
      cases n0
    refine h h'.objs.size c' s.heap.objs.size _ doc ((X.mg "__name__").getD .none) ctv _ _ I1 hE (fun p hp => ?_) (Heap.get?_push_size _ rfl) (Heap.get?_push_of_some _ (hx _ _ nP0 h0)) ?_ (nofr0 _ (Nat.le_refl _)) ?_ (nofr _ hsz) upd_same
    · by_cases hb : p.1 = P
      · rw [hu p hp hb, hb]
        refine ⟨_, by rw [upd_ne (ne_of_none hP nC), upd_same], by rw [eL]; exact PySem.TriplesOk_snoc _ _ _ _ ht, fun p' cv hcv => ?_⟩
        rw [eL] at hcv
        rcases among_app _ ht hcv with z | z
        · obtain ⟨c0, e1, e2⟩ := ha p' cv z
          exact ⟨c0, e1, hE _ _ e2 codeO_ne⟩
        · exact ⟨c', z, upd_same⟩
      · obtain ⟨ps', a1, a2, a3⟩ := hT p hp
        refine ⟨ps', by rw [upd_ne (ne_of_none a1 nC), upd_ne hb]; exact a1, a2, fun p' cv hcv => ?_⟩
        obtain ⟨c0, e1, e2⟩ := a3 p' cv hcv
        exact ⟨c0, e1, hE _ _ e2 codeO_ne⟩
    · have n1 : s.heap.objs.size ≠ c' := Nat.ne_of_lt (Nat.lt_of_lt_of_le lt0 hge)
      rw [upd_ne n1, upd_ne nP0]
      exact n0
    · have n1 : h'.objs.size ≠ c' := Nat.ne_of_gt hlt
      have n2 : h'.objs.size ≠ P := Nat.ne_of_gt (Nat.lt_of_lt_of_le (Heap.lt_size hP') hsz)
      rw [upd_ne n1, upd_ne n2]
      exact J.hok.fresh hsz
  | some cv =>
    obtain ⟨c', e, hco⟩ := ha pos cv hc
    subst e
    refine PySem.W.kdv_makeTailHit (s := { s with heap := s.heap.push (PySem.W.kdv_tup [Value.int i s.toks]), toks := s.toks + 1 }) (mg := X.mg) (c := c) (P := P) (ps := ps) (closure_ok hfree) I.ok.glob (I.mod.glob.keeps J.bk) hcode (TB.code.keeps J.bk) hP' ht hc bP fun ctv doc h' tk hx hsz => ?_
    have I1 : Inv X pins σ H { s with heap := h'.push (PySem.W.kdv_obj "<lambda>" (X.env.qual ++ "<lambda>") params (.expr body) scope (cloFrom X.env.cells scope.names []) (.ref s.heap.objs.size) doc ((X.mg "__name__").getD .none) c' ctv), toks := tk } := J.kept fun b o e => Heap.get?_push_of_some _ (hx b o e)
    exact h h'.objs.size c' s.heap.objs.size _ doc ((X.mg "__name__").getD .none) ctv H _ I1 (ExtN.refl H) hT (Heap.get?_push_size _ rfl) (Heap.get?_push_of_some _ (hx _ _ h0)) n0 (nofr0 _ (Nat.le_refl _)) (J.hok.fresh hsz) (nofr _ hsz) hco
end
/-- its own names are none of the maker's -/
structure LamP (N : List Str) (sc scope : Scope) (a : Str) : Prop where
  kind : scope.kind = .function
  co : scope.isCoroutine = false
  gen : scope.isGenerator = false
  own : ∀ y ∈ scope.names, (y.2 = .local → y.1 ∉ N) ∧ y.2 ≠ .cell
  free : ∀ y ∈ scope.names, y.2 = .free → sc.names.lookup y.1 = some .cell ∨ sc.names.lookup y.1 = some .free
  par : scope.names.lookup a = some .local
def lamPB (N : List Str) (sc scope : Scope) (a : Str) : Bool :=
  decide (scope.kind = .function) && !scope.isCoroutine && !scope.isGenerator && decide (scope.names.lookup a = some .local) && scope.names.all fun y => (!decide (y.2 = .local) || !decide (y.1 ∈ N)) && !decide (y.2 = .cell) && (!decide (y.2 = .free) || decide (sc.names.lookup y.1 = some .cell) || decide (sc.names.lookup y.1 = some .free))
theorem lamP_by {N : List Str} {sc scope : Scope} {a : Str} (h : lamPB N sc scope a = true) : LamP N sc scope a := by
  unfold lamPB at h
  simp only [Bool.and_eq_true, Bool.or_eq_true, Bool.not_eq_true', decide_eq_true_eq, decide_eq_false_iff_not, List.all_eq_true] at h
  obtain ⟨⟨⟨⟨h1, h2⟩, h3⟩, h5⟩, h4⟩ := h
  refine ⟨h1, h2, h3, fun y hy => ⟨fun e => ?_, (h4 y hy).1.2⟩, fun y hy e => ?_, h5⟩
  · rcases (h4 y hy).1.1 with z | z
    · exact absurd e z
    · exact z
  · rcases (h4 y hy).2 with (z | z) | z
    · exact absurd e z
    · exact .inl z
    · exact .inr z
theorem LamP.has {X : Cx} {N : List Str} {scope : Scope} {a : Str} (L : LamP N X.env.scope scope a) (ok : X.Ok) : ∀ y ∈ scope.names, y.2 = .free → ∃ c, X.env.cells.lookup y.1 = some c := fun y hy e => by
  rcases L.free y hy e with k | k
  · exact ok.has _ (.inl k)
  · exact ok.has _ (.inr k)
section
variable {X : Cx} {pins : List (Addr × Obj)} {σ : L2.St} {H HZ : Hp} {s s1 : Shared}
theorem start {A : Around} {outer : List Env} {E : XK} {scope : Scope} {a : Str} {f c' : Addr} {h₁ : Heap} {tk : Nat} {bs : List (Str × Value)} (I : Inv X pins σ H s) (L : LamP X.N X.env.scope scope a) (e0 : Env0 X.prog X.w X.K X.mg X.base A outer s1 HZ) (hd : A.handled = none)
    (un : Un (frs X.stack) [] H HZ s.heap s1.heap) (hns : h₁.Ns s1.heap.objs.size fun y => bs.reverse.lookup y) (kp : ∀ b o, s1.heap.get? b = some o → h₁.get? b = some o) :
    Inv (lamCx X A outer s1 HZ E scope f c') [] σ HZ { s1 with heap := h₁, toks := tk } := by
  have hfree := L.has I.ok
  have cm : ∀ {y c}, (cloFrom X.env.cells scope.names []).lookup y = some c → X.env.cells.lookup y = some c := fun {y c} e => by
    rcases cloFrom_mem (PySem.mem_of_lookup e) with hm | ⟨h1, h2⟩
    · cases hm
    · obtain ⟨c1, hc⟩ := hfree _ h1 rfl
      have hc : X.env.cells.lookup y = some c1 := hc
      have e2 : c = c1 := by
        rw [h2, hc] <;> rfl
      rw [e2]
      exact hc
  have look : ∀ {y}, scope.names.lookup y = some .free → ∃ c, (cloFrom X.env.cells scope.names []).lookup y = some c := fun {y} hl => by
    have hy : (y, NameKind.free) ∈ scope.names := PySem.mem_of_lookup hl
    exact mem_lookup (cloFrom_has (cells := X.env.cells) (acc := []) hy)
  have cellK : ∀ {c : Addr} {v : Option Value}, H c = none → s.heap.IsCell c v → h₁.IsCell c v := fun {c v} n ⟨o, ho, hd⟩ => by
    obtain ⟨sl, q⟩ := un.any ho n (by simp)
    exact ⟨_, kp _ _ q, hd⟩
  have noA : ∀ b : Addr, b ∉ (lamCx X A outer s1 HZ E scope f c').ex := fun b z => absurd (show b ∈ ([] : List Addr) from z) (by simp)
  refine ⟨⟨e0.mod, L.kind, rfl, rfl, Nat.le_refl _, fun y z c e1 e2 => I.ok.inj y z c (cm e1) (cm e2), fun y hy => ?_, fun y c z _ => ?_, fun _ => hd, Around.frames_deeper e0.frames, .inr ⟨rfl, rfl⟩, fun b z => absurd z (noA b), e0.bs, e0.bsz, fun b _ _ => noA b,
      fun b z => absurd z (noA b), e0.funs, e0.frf⟩,
    rfl, e0.bare, Un.kept kp, ⟨_, hns, fun i y v e1 e2 e3 => ?_⟩, fun y c e => ?_, e0.hok.fresh (Nat.le_refl _), fun y c e => ?_, fun q hq => absurd (show q ∈ ([] : List (Addr × Obj)) ++ [] from hq) (by simp), e0.hok.kept kp, I.len⟩
  · have hy : scope.names.lookup y = some .cell ∨ scope.names.lookup y = some .free := hy
    rcases hy with hy | hy
    · exact absurd rfl (L.own _ (PySem.mem_of_lookup hy)).2
    · exact look hy
  · have z : false = true := z
    cases z
  · have e3 : Vis scope y := e3
    rcases e3 with k | k | k
    · exact absurd (List.mem_of_getElem? (show X.N[i]? = some y from e1)) ((L.own _ (PySem.mem_of_lookup k)).1 rfl)
    · exact absurd rfl (L.own _ (PySem.mem_of_lookup k)).2
    · obtain ⟨m, hn, hl⟩ := I.loc
      have hvis : Vis X.env.scope y := (L.free _ (PySem.mem_of_lookup k) rfl).elim (fun k => .inr (.inl k)) (fun k => .inr (.inr k))
      obtain ⟨w', r, q⟩ := hl i y v e1 e2 hvis
      obtain ⟨c2, h2⟩ := look k
      refine ⟨w', r, .inr ⟨.inr k, c2, h2, ?_⟩⟩
      have c1 := cm h2
      rcases q with ⟨k', _⟩ | ⟨_, c3, e', z⟩
      · have k' : X.env.scope.names.lookup y = some .local := k'
        rcases L.free _ (PySem.mem_of_lookup k) rfl with k2 | k2 <;> rw [show X.env.scope.names.lookup y = _ from k2] at k' <;> cases k'
      · rw [c1] at e'
        cases e'
        exact cellK (I.freeC y _ c1) z
  · obtain ⟨w', z⟩ := I.cell y c (cm e)
    exact ⟨w', cellK (I.freeC y c (cm e)) z⟩
  · obtain ⟨v, o, ho, hd⟩ := I.cell y c (cm e)
    exact un.free c o ho (I.freeC y c (cm e)) (by simp)
theorem pe_act {CXg : CXT} {Eg : XK} {Ng : List Str} {qg : Str} {sg : Scope} {g f c' T0 : Addr} {cdg dv doc pm ctv : Value} {params : Arguments} {body : Expr} {scope : Scope} {k i : Nat} {a b0 : Str} {pn : List (Addr × Obj)} {xe : Value → Shared → Prop} {W : WX} {E : XK} {tb : TE} {p1 p2 : Pos}
    (I : Inv X pins σ H s) (L : LamP X.N X.env.scope scope b0) (hf : s.heap.get? f = some (PySem.W.kdv_obj "<lambda>" (X.env.qual ++ "<lambda>") params (.expr body) scope (cloFrom X.env.cells scope.names []) (.ref T0) doc pm c' ctv)) (h0 : s.heap.get? T0 = some (PySem.W.kdv_tup [dv])) (n0 : H T0 = none) (f0 : T0 ∉ frs X.stack) (hfn : H f = none) (hfr : f ∉ frs X.stack)
    (hbind : ∃ kk : Option (Array Value) → Sem (List (Str × Value)), bindArgs (PySem.W.kdv_fn "<lambda>" (X.env.qual ++ "<lambda>") params (.expr body) scope (cloFrom X.env.cells scope.names []) (.ref T0) doc pm (.ref c') ctv) ⟨[], []⟩ = seqItems? (.ref T0) >>= kk ∧ kk (some [dv].toArray) = pure [(b0, dv)])
    (tk : Takes ((cxOf CXg X.prog X.w X.K X.mg X.base Ng qg sg g cdg X.A X.stack s H Eg).tr pn xe) W) (hW : ∀ cls d σ' H', E cls d H' → W cls d σ' H') (hr : Room (k + 1) (X.A.deeper (envOfC qg sg s.heap.objs.size g cdg)))
    (hbody : ∀ (A : Around) (outer : List Env) (s : Shared) (H : Hp), Room k (A.deeper (lamEnv X scope s.heap.objs.size f c')) → PE (lamCx X A outer s H E scope f c') body tb)
    (hN : Ng[i]? = some a) (hv : Vis sg a) (hd : (a == ("__debug__" : Str)) = false := by decide) (hcd : (a == ("__classdict__" : Str)) = false := by decide) :
    PE ((cxOf CXg X.prog X.w X.K X.mg X.base Ng qg sg g cdg X.A X.stack s H Eg).tr pn xe) (.Call (.Name a p1) [] [] p2)
      (fun σZ HZ Q => σZ[i]? = some (some (.ref f)) ∧ HZ c' = some (CodeO c' (X.env.qual ++ "<lambda>")) ∧ tb σ HZ Q) := by
  refine ⟨fun pinsZ sZ σZ HZ Q IZ h => ?_⟩
  obtain ⟨hs, hc, ht⟩ := h
  refine wpAny_Call_Name_kw (thn ((pe_var (pos := p1) (i := i) hN hv hd hcd).run pinsZ sZ σZ HZ (fun v H1 => v = .ref f ∧ H1 = HZ) IZ ⟨.ref f, hs, rfl, rfl⟩) fun u s1 ⟨v, H1, I1, r1, q1⟩ => ?_)
  obtain ⟨ev, eH⟩ := q1
  subst ev
  rw [eH] at I1
  obtain rfl : u = Value.ref f := r1
  have of1 : s1.heap.get? f = some (PySem.W.kdv_obj "<lambda>" (X.env.qual ++ "<lambda>") params (.expr body) scope (cloFrom X.env.cells scope.names []) (.ref T0) doc pm c' ctv) := I1.base.keep f _ hf hfn hfr (fun z => nomatch (show f ∈ ([] : List Addr) from z))
  have of0 : s1.heap.get? T0 = some (PySem.W.kdv_tup [dv]) := I1.base.keep T0 _ h0 n0 f0 (fun z => nomatch (show T0 ∈ ([] : List Addr) from z))
  refine PySem.W.callWith_F0 ⟨_, _, _, _, of1⟩ ?_
  have un : Un (frs X.stack) [] H HZ s.heap s1.heap := I1.base
  obtain ⟨⟨oc, vs, t, hoc, hdc, hvc⟩, _, _⟩ := I1.hok c' _ hc
  have rc : codeAny (model X.prog X.w) (X.A.deeper (envOfC qg sg s.heap.objs.size g cdg)) (.call (.ref f) ⟨[], []⟩) (CR (L2.CX X.prog X.w) (envOfC qg sg s.heap.objs.size g cdg :: X.stack) X.prog X.w HZ s1 Q E) s1 := by
    obtain ⟨kk, hb1, hb2⟩ := hbind
    refine PySem.W.kla_callFunE hr.depth of1 rfl L.co L.gen rfl ⟨c', oc, vs, t, rfl, hoc, hdc, hvc⟩ ?_
    refine BindsTo.of_defaults (T := T0) rfl of0 rfl hb1 hb2 _ _ _ _ ?_
    refine wpAny_newFunctionEnv (fun y hy => (L.own y hy).2) (fun y hy => by rw [List.mem_singleton.mp hy]; exact L.par) (fun h₁ hns hsb => ⟨I1.nolimit.fresh _ hsb, ?_⟩) L.kind
    show codeAny _ _ (.expr body (lamEnv X scope s1.heap.objs.size f c')) _ _
    have kp : ∀ b o, s1.heap.get? b = some o → h₁.get? b = some o := fun b o e => hsb.extBut b o (Nat.ne_of_lt (Heap.lt_size e)) (Heap.get?_push_of_some _ e)
    have J : Inv (lamCx X (X.A.deeper (envOfC qg sg s.heap.objs.size g cdg)) (envOfC qg sg s.heap.objs.size g cdg :: X.stack) s1 HZ E scope f c') [] σ HZ { s1 with heap := h₁, toks := s1.toks + ([(b0, dv)] : List (Str × Value)).length } :=
      start I L I1.env0 hr.hd un hns kp
    refine PySem.W.kla_codeExpr (wpAny_mono ((hbody _ _ s1 HZ (hr.deeper _)).run [] _ _ HZ Q J ht) (fun v s' hq => ?_) fun e s' hq => hq)
    obtain ⟨w', H', J', rv, q⟩ := hq
    exact ⟨w', H', J'.os, J'.bare, J'.base, J'.hok, rv, q⟩
  have hx : Passes (L2.CX X.prog X.w) ((cxOf CXg X.prog X.w X.K X.mg X.base Ng qg sg g cdg X.A X.stack s H Eg).tr pn xe) E := passes_call tk hW
  refine wpAny_call (codeAny_mono rc fun r s' hq => ?_)
  cases r with
  | error e => exact hx pinsZ σZ HZ s1 e s' I1 hq
  | ok fl =>
    cases fl with
    | ret u => exact I1.after hq
    | next => exact False.elim hq
    | brk => exact False.elim hq
    | cont => exact False.elim hq
end
section
variable {X : Cx}
/-- x(lambda b=0: body) -/
theorem pe_lamcall {T : List (Addr × Str)} {TT : (XK → Hp → VK → Prop) → Hp → VK → Prop} {x a b0 : Str} {g c P : Addr} {k j : Nat} {i : Int} {pg : Arguments} {bg : List Stmt} {sg : Scope} {dV kV doc pm cdv ct oc : Value} {an od : Option Addr} {osl : Array (Option Value)} {Ng : List Str}
    {params : Arguments} {body : Expr} {scope : Scope} {t : XK → TE} {p p0 lpos pos : Pos} (hg : Gl X x) (hm : X.mg x = some (.ref g)) (hk : PySem.W.keepIn X.K (.ref g) = true)
    (lk : X.K.lookup g = some ⟨oc, od, .func (PySem.W.fnOf x x pg bg sg dV kV doc pm an cdv ct), osl⟩) (hcg : PySem.W.codeIn X.K cdv x = true) (hb : L2.Binds X.K (PySem.W.fnOf x x pg bg sg dV kV doc pm an cdv ct) [a] []) (Sg : FnScope Ng [a] sg) (hNg : Ng[0]? = some a) (hva : Vis sg a)
    (hG : GivesTo X Ng x sg g cdv bg a (X.env.qual ++ "<lambda>") TT)
    (TB : TabB X.base X.mg c P) (hcode : X.env.code = .ref c) (hmT : (P, X.env.qual ++ "<lambda>") ∈ T) (hu : ∀ p ∈ T, p.1 = P → p.2 = X.env.qual ++ "<lambda>") (hr : Room (k + 2) X.A) (L : LamP X.N X.env.scope scope b0) (hk0 : params.kw_defaults = []) (hd0 : params.defaults = [.Constant (.int i) j p0])
    (hbind : ∀ (q : Str) (cl : List (Str × Addr)) (dV doc pm cv ctv dv : Value), ∃ kk : Option (Array Value) → Sem (List (Str × Value)), bindArgs (PySem.W.kdv_fn "<lambda>" q params (.expr body) scope cl dV doc pm cv ctv) ⟨[], []⟩ = seqItems? dV >>= kk ∧ kk (some [dv].toArray) = pure [(b0, dv)])
    (hbody : ∀ (A : Around) (outer : List Env) (s : Shared) (H : Hp) (E : XK) (f c' : Addr), Room k (A.deeper (lamEnv X scope s.heap.objs.size f c')) → PE (lamCx X A outer s H E scope f c') body (t E))
    (hdb : (x == ("__debug__" : Str)) = false := by decide) (hd : (a == ("__debug__" : Str)) = false := by decide) (hcd : (a == ("__classdict__" : Str)) = false := by decide) :
    PE X (.Call (.Name x p) [.Lambda params body scope lpos] [] pos) (tLam T TT t) := by
  refine ⟨fun pins s σ H Q I h => ?_⟩
  obtain ⟨hT, h⟩ := h
  refine wpAny_Call_Name_kw (ld_glob I hg hm ?_ hdb)
  refine PySem.W.callWith_K (h₀ := X.base) I.ok.mod.kin hk ?_ (by rfl) (by rfl)
  show wpAny _ _ (spliced ((false, eval (.Lambda params body scope lpos) X.env) :: backTo pos (starEach [] X.env))) _ _ s
  refine Calls.spliced_cons (make I TB hcode hmT hu hT hk0 hd0 (L.has I.ok) fun f c' T0 dv doc' pm' ctv H1 s' I1 eN T1 hf h0 n0 f0 hfn hfr hco => ?_)
  refine Calls.spliced_nil ⟨I1.kIn, ?_⟩
  have rc : codeAny (model X.prog X.w) X.A (.call (.ref g) ⟨[.ref f], []⟩) (CR C8.CX0 X.stack X.prog X.w H1 s' Q C8.E0) s' := by
    refine run_ofS (N := Ng) (ps := [a]) (us := [.ref f]) (vs := [.ref f]) lk hcg Sg hr I1.env0 (hb s' [.ref f] I1.kIn rfl) (.cons rfl .nil) rfl fun hr' => ?_
    obtain ⟨t', ht', hq'⟩ := hG f c' s' H1 Q (fun E H' Q' => t E σ H' Q') (fun W pn xe E p1 p2 tk hW => pe_act (i := 0) I1 L hf h0 n0 f0 hfn hfr (hbind _ _ _ _ _ _ _ _) tk hW hr' (fun A outer s H hr2 => hbody A outer s H E f c' hr2) hNg hva hd hcd) hco (h H1 eN T1)
    exact ⟨t', ht'.nox, hq'⟩
  refine wpAny_call (codeAny_mono rc fun r s2 hq => ?_)
  cases r with
  | error e => exact (show False from hq).elim
  | ok fl =>
    cases fl with
    | ret u => exact I1.after hq
    | next => exact False.elim hq
    | brk => exact False.elim hq
    | cont => exact False.elim hq
end
end LamY
set_option Elab.async false
set_option linter.all false
set_option maxRecDepth 100000
set_option maxHeartbeats 4000000
set_option autoImplicit false
namespace Fv
open PySem PySem.Spec PyProof.Rows L2 Bm
section
variable {α : Type} {xs : List α}
theorem cut_to {n : Int} (h : 0 ≤ n) : cut xs none (some n) = xs.take n.toNat := by
  simp only [cut, HT.sIx, if_neg (Int.not_lt.mpr h), Nat.sub_zero, List.drop_zero]
  rcases Nat.le_total n.toNat xs.length with c | c
  · rw [Nat.min_eq_left c]
  · rw [Nat.min_eq_right c, List.take_length, List.take_of_length_le c]
theorem cut_from {n : Int} (h : 0 ≤ n) : cut xs (some n) none = xs.drop n.toNat := by
  simp only [cut, HT.sIx, if_neg (Int.not_lt.mpr h)]
  rcases Nat.le_total n.toNat xs.length with c | c
  · rw [Nat.min_eq_left c, List.take_of_length_le (by simp)]
  · rw [Nat.min_eq_right c, List.drop_of_length_le c, List.drop_length, List.take_nil]
end
section
variable {h : List Ob}
@[simp] theorem x_kindM (f : M D) (e : En) : kindM f e = (match f e with
  | .ok d e' => .ok d e'
  | .ex x fs e' => match kindD x fs with
    | some d => .ok d e'
    | none => .stuck
  | .stuck => .stuck) := rfl
@[simp] theorem x_stepM (fx : M D) (fk : M (Option Int)) (e : En) : stepM fx fk e = bnd fx (fun x => bnd fk fun k => lft fun h => match lsqOf h x with
  | some xs => if k ≠ some 0 then some (.lst (stepX xs k)) else none
  | none => none) e := rfl
@[simp] theorem x_lrg1 (f : M D) (e : En) : lrg1 f e = bnd f (fun x => lft fun _ => match x with
  | .int j => if 0 ≤ j ∧ j ≤ 16777216 then some (.lst (rangeL 0 j.toNat)) else none
  | _ => none) e := rfl
@[simp] theorem x_enumI (f : M (List D)) (e : En) : enumI f e = bnd f (fun ds => lft fun _ => match ds with
  | [d] => (stayOf d).map enumL
  | _ => none) e := rfl
@[simp] theorem x_rng2 (f : M (List D)) (e : En) : rng2 f e = bnd f (fun ds => lft fun _ => match ds with
  | [.int i, .int j] => if -(2 ^ 62) ≤ i ∧ i < 2 ^ 62 ∧ -(2 ^ 62) ≤ j ∧ j < 2 ^ 62 then some (rangeL i (j - i).toNat) else none
  | _ => none) e := rfl
@[simp] theorem x_stay1 (xs : List D) : stayOf (.lst xs) = some xs := rfl
@[simp] theorem x_stay2 (xs : List D) : stayOf (.tup xs) = some xs := rfl
@[simp] theorem x_stay3 (xs : List D) : stayOf (.scr xs) = some xs := rfl
@[simp] theorem x_tuple (d : D) : tupleD h [d] = (seqOf h d).map .tup := rfl
@[simp] theorem x_catO (x y : D) : catO h x y = (match lstOf h x, lstOf h y with
  | some xs, some ys => if xs.length + ys.length ≤ sizeLine then some (.lst (xs ++ ys)) else none
  | _, _ => none) := rfl
end
theorem wh_step {c : M Bool} {body : M Fl} {n : Nat} {e e1 e2 : En} (hc : c e = .ok true e1) (hb : body e1 = .ok .nx e2) : whM c body (n + 1) e = whM c body n e2 := by
  conv => lhs; unfold whM
  rw [hc]
  dsimp only
  rw [hb]
theorem wh_end {c : M Bool} {body : M Fl} {n : Nat} {e e1 : En} (hc : c e = .ok false e1) : whM c body (n + 1) e = .ok .nx e1 := by
  unfold whM
  rw [hc]
theorem for_step {b : D → En → Option En} {body : M Fl} {d : D} {ds : List D} {e e1 e2 : En} (hb : b d e = some e1) (h : body e1 = .ok .nx e2) : forL b body (d :: ds) e = forL b body ds e2 := by
  conv => lhs; unfold forL
  rw [hb]
  dsimp only
  rw [h]
theorem toPs_ints {go : Nat → Option PyData} : ∀ ws : List Int, Fv.toPs go (ws.map D.int) = some (ws.map PyData.int)
  | [] => by simp [Fv.toPs]
  | w :: ws => by simp [Fv.toPs, toPW, toPs_ints ws]
theorem same_refl {n : Nat} {h : List Ob} {x y : D} {p : PyData} (ex : dataOf h x = some p) (ey : dataOf h y = some p) (d : depD n p = true) : sameF n [x, y] h = .ok (.bl true) h := by
  unfold sameF
  dsimp only
  rw [ex]
  dsimp only
  rw [if_pos ⟨ey, d⟩]
theorem eqvAll_ints : ∀ xs ys : List Int, PyData.eqvAll (xs.map PyData.int) (ys.map PyData.int) = decide (xs = ys)
  | [], [] => by simp [PyData.eqvAll]
  | [], y :: ys => by simp [PyData.eqvAll]
  | x :: xs, [] => by simp [PyData.eqvAll]
  | x :: xs, y :: ys => by
    by_cases c : x = y <;> simp [PyData.eqvAll, PyData.eqv, eqvAll_ints xs ys, c]
theorem layAll_ints : ∀ xs : List Int, PyData.canLayAll0 (xs.map PyData.int) = true ∧ PyData.depthAll (xs.map PyData.int) = 0
  | [] => by simp [PyData.canLayAll0, PyData.depthAll]
  | x :: xs => by
    have := layAll_ints xs
    simp [PyData.canLayAll0, PyData.canLay0, this, PyData.depthAll, PyData.depth]
end Fv
set_option Elab.async false
set_option linter.all false
set_option maxRecDepth 100000
set_option maxHeartbeats 4000000
set_option autoImplicit false
namespace PySem
open PyProof.Rows
section
variable {prog : Program} {w : World} {A : Around} {E : Value → Shared → Prop} {s : Shared}
abbrev zM1 (h : Heap) (l1 : Addr) : Heap := h.push { cls := .type "tuple_iterator", data := .fields #[.ref l1, .int 0 0] }
abbrev zM2 (h : Heap) (l1 l2 : Addr) : Heap := (zM1 h l1).push { cls := .type "list_iterator", data := .fields #[.ref l2, .int 0 0] }
abbrev zM3 (h : Heap) (l1 l2 : Addr) : Heap := (zM2 h l1 l2).push { cls := .type "tuple", data := .seq #[.ref h.objs.size, .ref (zM1 h l1).objs.size] }
abbrev zM4 (h : Heap) (l1 l2 : Addr) : Heap := (zM3 h l1 l2).push { cls := .type "tuple", data := .seq #[.none, .none] }
abbrev zM5 (h : Heap) (l1 l2 : Addr) : Heap := (zM4 h l1 l2).push { cls := .type "zip", data := .fields #[.none, .bool false, .bool false, .ref (zM2 h l1 l2).objs.size, .ref (zM3 h l1 l2).objs.size] }
end
end PySem
namespace Fv
open PySem PySem.Spec PyProof.Rows L2 Bm
/-- the tuple at a, the list at b, side by side -/
def ItzM (K : PySem.W.Frag) (a b : Addr) : It :=
  ⟨fun i H => ∃ (xs ys : List V) (x y : V), SqT K H a xs ∧ SqL K H b ys ∧ xs[i]? = some x ∧ ys[i]? = some y,
    fun i H v H' => ∃ p x y, v = .ref p ∧ H p = none ∧ H' = upd H p (.tup [x, y]) ∧ (∀ xs, SqT K H a xs → xs[i]? = some x) ∧ ∀ ys, SqL K H b ys → ys[i]? = some y,
    fun i H => ∃ xs ys : List V, SqT K H a xs ∧ SqL K H b ys ∧ (xs.length ≤ i ∨ ys.length ≤ i)⟩
def iZipM (K : PySem.W.Frag) (ta : TA) : TI := fun σ H R => ta σ H fun vs H1 => ∃ a b xs ys, vs = [.ref a, .ref b] ∧ SqT K H1 a xs ∧ SqL K H1 b ys ∧ R (ItzM K a b) H1
def zipMM (f : M (List D)) : M (List D) := bnd f fun ds => lft fun _ => match ds with
  | [.tup xs, .lst ys] => some (zipL xs ys)
  | _ => none
end Fv
set_option Elab.async false
set_option linter.all false
set_option maxRecDepth 100000
set_option maxHeartbeats 4000000
set_option autoImplicit false
namespace Fv
open PySem PySem.Spec PyProof.Rows L2 Bm
@[simp] theorem x_zipMM (f : M (List D)) (e : En) : zipMM f e = bnd f (fun ds => lft fun _ => match ds with
  | [.tup xs, .lst ys] => some (zipL xs ys)
  | _ => none) e := rfl
theorem lc_flt {t : Tg} {tt : M Bool} {f : M D} {ρ : List (Option D)} {h : List Ob} {g : D → D} {p : D → Bool} : ∀ {ds acc : List D}, acc.length + ds.length ≤ 1000000 →
    (∀ d ∈ ds, ∃ ρ1, t.put d ρ = some ρ1 ∧ ∀ h', tt ⟨ρ1, h'⟩ = .ok (p d) ⟨ρ1, h'⟩ ∧ (p d = true → f ⟨ρ1, h'⟩ = .ok (g d) ⟨ρ1, h'⟩)) → lcL t tt f ρ h.length ds (h ++ [.lst acc]) = some (h ++ [.lst (acc ++ (ds.filter p).map g)])
  | [], acc, _, _ => by simp [lcL]
  | d :: ds, acc, hl, k => by
    obtain ⟨ρ1, h1, h2⟩ := k d (by simp)
    obtain ⟨h3, h4⟩ := h2 (h ++ [.lst acc])
    have hl' : acc.length + (ds.length + 1) ≤ 1000000 := by simpa using hl
    unfold lcL
    rw [h1]
    dsimp only
    rw [h3]
    cases q : p d with
    | false =>
      have := lc_flt (t := t) (tt := tt) (f := f) (ρ := ρ) (h := h) (g := g) (p := p) (ds := ds) (acc := acc) (by omega) fun d' hd => k d' (by simp [hd])
      dsimp only
      rw [this, List.filter_cons, q]
      simp
    | true =>
      have := lc_flt (t := t) (tt := tt) (f := f) (ρ := ρ) (h := h) (g := g) (p := p) (ds := ds) (acc := acc ++ [g d]) (by simp; omega) fun d' hd => k d' (by simp [hd])
      dsimp only
      rw [h4 q]
      dsimp only
      rw [at_new0]
      dsimp only
      rw [if_pos (by omega), set_new0, this, List.filter_cons, q]
      simp
theorem drop_flt {t : Tg} {vs : List Nat} {fi : M (List D)} {tt : M Bool} {f : M D} {e : En} {ds : List D} {g : D → D} {p : D → Bool} (qi : fi e = .ok ds e) (hl : ds.length ≤ 1000000)
    (k : ∀ d ∈ ds, ∃ ρ1, t.put d (wipeD e.ρ vs) = some ρ1 ∧ ∀ h', tt ⟨ρ1, h'⟩ = .ok (p d) ⟨ρ1, h'⟩ ∧ (p d = true → f ⟨ρ1, h'⟩ = .ok (g d) ⟨ρ1, h'⟩)) (l : lows 0 ((ds.filter p).map g) = true) : dropM (lcP t vs fi tt f) e = .ok (.lst ((ds.filter p).map g)) e := by
  refine drop_lst ?_ l
  unfold lcP bnd
  rw [qi]
  dsimp only
  rw [lc_flt (g := g) (p := p) (by simpa using hl) k]
  simp
end Fv
set_option Elab.async false
set_option linter.all false
set_option maxRecDepth 100000
set_option maxHeartbeats 4000000
set_option autoImplicit false
namespace Fv
open PySem PySem.Spec PyProof.Rows L2 Bm
theorem lc_allC {ch : List (D × List D)} {t : Tg} {tt : M Bool} {f : M D} {ρ : List (Option D)} {h : List Ob} {g : D → D} (hc : ∀ u, Chk (h ++ u) ch) : ∀ {ds acc : List D}, acc.length + ds.length ≤ 1000000 →
    (∀ d ∈ ds, ∃ ρ1, t.put d ρ = some ρ1 ∧ ∀ u, tt ⟨ρ1, h ++ u⟩ = .ok true ⟨ρ1, h ++ u⟩ ∧ f ⟨ρ1, h ++ u⟩ = .ok (g d) ⟨ρ1, h ++ u⟩) → lcLC ch t tt f ρ h.length ds (h ++ [.lst acc]) = some (h ++ [.lst (acc ++ ds.map g)])
  | [], acc, _, _ => by
    unfold lcLC
    rw [if_pos (hc _)]
    simp
  | d :: ds, acc, hl, k => by
    obtain ⟨ρ1, h1, h2⟩ := k d (by simp)
    obtain ⟨h3, h4⟩ := h2 [.lst acc]
    have hl' : acc.length + (ds.length + 1) ≤ 1000000 := by simpa using hl
    have := lc_allC (t := t) (tt := tt) (f := f) (ρ := ρ) (h := h) (g := g) hc (ds := ds) (acc := acc ++ [g d]) (by simp; omega) fun d' hd => k d' (by simp [hd])
    unfold lcLC
    rw [if_pos (hc _), h1]
    dsimp only
    rw [h3]
    dsimp only
    rw [h4]
    dsimp only
    rw [at_new0]
    dsimp only
    rw [if_pos (by omega), set_new0, this]
    simp
theorem drop_lcC {t : Tg} {vs : List Nat} {fi : M (List D × List (D × List D))} {tt : M Bool} {f : M D} {e : En} {ds : List D} {ch : List (D × List D)} {g : D → D} (qi : fi e = .ok (ds, ch) e) (hc : ∀ u, Chk (e.h ++ u) ch) (hl : ds.length ≤ 1000000)
    (k : ∀ d ∈ ds, ∃ ρ1, t.put d (wipeD e.ρ vs) = some ρ1 ∧ ∀ u, tt ⟨ρ1, e.h ++ u⟩ = .ok true ⟨ρ1, e.h ++ u⟩ ∧ f ⟨ρ1, e.h ++ u⟩ = .ok (g d) ⟨ρ1, e.h ++ u⟩) (l : lows 0 (ds.map g) = true) : dropM (lcPC t vs fi tt f) e = .ok (.lst (ds.map g)) e := by
  refine drop_lst ?_ l
  unfold lcPC bnd
  rw [qi]
  dsimp only
  rw [lc_allC (g := g) hc (by simpa using hl) k]
  simp
@[simp] theorem x_seqC (f : M D) (e : En) : seqC f e = bnd f (fun d => lft fun h => match d with
  | .tup xs => some (xs, [])
  | d => (lsqOf h d).map fun xs => (xs, [(d, xs)])) e := rfl
end Fv
set_option Elab.async false
set_option linter.all false
set_option maxRecDepth 100000
set_option maxHeartbeats 4000000
set_option autoImplicit false
namespace Fv
open PySem PySem.Spec PyProof.Rows L2 Bm
theorem st_cN {g : List Ob → List D → Option D} {fa : M (List D)} {e e1 : En} {ds : List D} {d : D} (q : fa e = .ok ds e1) (k : g e1.h ds = some d) : cN g fa e = .ok d e1 := by simp [q, k]
theorem st_tup {fa : M (List D)} {e e1 : En} {ds : List D} (q : fa e = .ok ds e1) (hl : ds.length ≤ 1000 := by first | decide | simp) : tupM fa e = .ok (.tup ds) e1 := by simp [q, hl]
theorem st_lst {fa : M (List D)} {e e1 : En} {ds : List D} (q : fa e = .ok ds e1) (hl : ds.length ≤ 1000 := by first | decide | simp) : frzM (lstM fa) e = .ok (.lst ds) e1 := by simp [q, hl]
theorem st_c {d : D} {e : En} : (ret d) e = .ok d e := rfl
theorem st_if_nx {c : M Bool} {f : M Fl} {e e' : En} (q : c e = .ok false e') : ifS c f (ret .nx) e = .ok .nx e' := st_if_f q
theorem st_sl {X : M D} {lo hi : M (Option Int)} {e e1 e2 e3 : En} {x d : D} {a b : Option Int} (q : X e = .ok x e1) (ql : lo e1 = .ok a e2) (qh : hi e2 = .ok b e3) (k : slD e3.h x a b = some d) : slM X lo hi e = .ok d e3 := by
  simp only [x_slM, x_bnd, q, ql, qh, x_lft, k]
theorem st_prt {f : M D} {e e1 : En} {j : Int} (q : f e = .ok (.int j) e1) : prt (some f) e = .ok (some j) e1 := by simp [q]
theorem length_rangeL (lo : Int) (n : Nat) : (rangeL lo n).length = n := by simp [rangeL]
theorem eq_tints {h : List Ob} (xs ys : List Int) : eqD h (.tup (xs.map .int)) (.tup (ys.map .int)) = some (.bl (decide (xs = ys))) := by
  have a := layAll_ints xs
  have b := layAll_ints ys
  simp [eqD, eqF, dataOf, toPW, toPs_ints, SeqAt.shaped, PyData.canLay0, a, b, PyData.depth, PyData.eqv, eqvAll_ints]
theorem st_pubLst {fa : M (List D)} {e e1 : En} {d : D} {xs : List D} (q : fa e = .ok [d] e1) (k : seqOf e1.h d = some xs) : pubM (cO listD fa) e = .ok (.ref e1.h.length) ⟨e1.ρ, e1.h ++ [.lst xs]⟩ := by simp [q, k]
theorem st_raise {x : Str} {e : En} : raiseM x e = .ex x [] e := rfl
theorem chk_one1 {h u : List Ob} {L : Nat} {xs : List D} (q : h[L]? = some (.lst xs)) : Chk (h ++ u) [(.ref L, xs)] := fun p m => by
  rw [List.mem_singleton.mp m]
  have hl := (List.getElem?_eq_some_iff.mp q).1
  show lsqOf (h ++ u) (.ref L) = some xs
  rw [x_lsqr, List.getElem?_append_left hl, q]
theorem st_call1A {Φ : Fun} {f : M D} {e e1 : En} {x d : D} {h' : List Ob} (q : f e = .ok x e1) (c : Φ [x] e1.h = .ok d h') : callM Φ [] (consM f nilM) e = .ok d ⟨e1.ρ, h'⟩ := st_call (st_arg q st_arg0) c
theorem for_rt {b : D → En → Option En} {body : M Fl} {d x : D} {ds : List D} {e e1 e2 : En} (hb : b d e = some e1) (h : body e1 = .ok (.rt x) e2) : forL b body (d :: ds) e = .ok (.rt x) e2 := by
  conv => lhs; unfold forL
  rw [hb]
  dsimp only
  rw [h]
end Fv
set_option Elab.async false
set_option linter.all false
set_option maxRecDepth 100000
set_option maxHeartbeats 4000000
set_option autoImplicit false
namespace Fv
open PySem PySem.Spec PyProof.Rows L2 Bm
section
variable {P : Program} {w : World} {K : PySem.W.Frag} {mg : Str → Option Value} {base : Heap} {outer : List Env} {H : Hp} {s s' : Shared} {E : XK} {u : Value}
end
section
variable {X : Cx} {C : Ct} {e : Expr} {pos cpos : Pos}
end
end Fv
set_option Elab.async false
set_option linter.all false
set_option maxRecDepth 100000
set_option maxHeartbeats 4000000
set_option autoImplicit false
namespace Fv
open PySem PySem.Spec PyProof.Rows L2 Bm
def spFT (K : PySem.W.Frag) (T : List (Addr × Str)) (n : Nat) (Φ : Fun) : Sp := fun vs H Q E => vs.length = n ∧ ∃ G ι h ds, LamX.Tabs T H ∧ Hs K G ι H h ∧ RDs K G ι ds vs ∧ PR K T G ι (Φ ds h) Q E
section
variable {X : Cx} {C : Ct} {e : Expr}
end
/-- the law, where another def's table is empty at the start -/
def spLawT (p : He.Defn) (K : PySem.W.Frag) : Sp := fun vs H Q _ => ∃ (sc : Addr) (ns : List Int), vs = [.ref sc] ∧ SqL K H sc (ns.map V.int) ∧ ns.length ≤ 63 ∧ H (He.cT K p).2 = some (.tbl #[]) ∧ ∀ H', Q (.bl true) H'
end Fv
set_option Elab.async false
set_option linter.all false
set_option maxRecDepth 100000
set_option maxHeartbeats 4000000
set_option autoImplicit false
namespace LamK
open PySem PySem.Spec PyProof.Rows L2 LamX Fv
section
variable {X : Cx} {pins : List (Addr × Obj)} {σ : L2.St} {H : Hp} {s : Shared}
theorem fn_laid {h' : Heap} {tk : Nat} {p : FnKey} {c' : Addr} {dV doc pm ctv : Value} (I : Inv X pins σ H { s with heap := h', toks := tk }) :
    Inv X pins σ (upd H h'.objs.size (.ext (FnO p h'.objs.size c' dV))) { s with heap := h'.push (PySem.W.kdv_obj "<lambda>" p.q p.params (.expr p.body) p.scope (cloFrom p.cells p.scope.names []) dV doc pm c' ctv), toks := tk } := by
  have g : (h'.push (PySem.W.kdv_obj "<lambda>" p.q p.params (.expr p.body) p.scope (cloFrom p.cells p.scope.names []) dV doc pm c' ctv)).get? h'.objs.size = some (PySem.W.kdv_obj "<lambda>" p.q p.params (.expr p.body) p.scope (cloFrom p.cells p.scope.names []) dV doc pm c' ctv) := Heap.get?_push_size _ rfl
  refine I.laid (t' := tk) (fun b o e => Heap.get?_push_of_some _ e) (Nat.le_refl _) ?_
  exact ⟨⟨doc, pm, ctv, g⟩, ⟨_, g⟩, fun h1 h2 ⟨a, b, c, d⟩ k => ⟨a, b, c, k _ d⟩⟩
theorem make0 {T : List (Addr × Str)} {c P : Addr} {params : Arguments} {body : Expr} {scope : Scope} {pos : Pos} {E : Value → Shared → Prop} {Q : Value → Shared → Prop} (I : Inv X pins σ H s) (TB : TabB X.base X.mg c P) (hcode : X.env.code = .ref c)
    (hm : (P, X.env.qual ++ "<lambda>") ∈ T) (hu : ∀ p ∈ T, p.1 = P → p.2 = X.env.qual ++ "<lambda>") (hT : Tabs T H) (hdef : defaultsOf params X.env = ([], [])) (hfree : ∀ y ∈ scope.names, y.2 = .free → ∃ c, X.env.cells.lookup y.1 = some c)
    (h : ∀ (f c' : Addr) (H1 : Hp) (s' : Shared), Inv X pins σ H1 s' → ExtN H H1 → Tabs T H1 → H1 f = some (.ext (FnO ⟨X.env.qual ++ "<lambda>", params, body, scope, X.env.cells, false⟩ f c' .none)) → H1 c' = some (CodeO c' (X.env.qual ++ "<lambda>")) → H f = none → Q (.ref f) s') :
    wpAny (model X.prog X.w) X.A (eval (.Lambda params body scope pos) X.env) Q E s := by
  obtain ⟨ps, hP, ht, ha⟩ := hT _ hm
  refine PySem.W.kla_eval hdef ?_
  have bP : s.heap.BuiltinsAt X.mg P := TB.bm.keeps I.bk
  have hP' : s.heap.get? P = some { cls := .none, data := .fields ps } := I.hok P _ hP
  cases hc : codeAmong pos ps.toList with
  | none =>
    refine PySem.W.kla_makeFunction (mg := X.mg) (c := c) (P := P) (ps := ps) (closure_ok hfree) I.ok.glob (I.mod.glob.keeps I.bk) hcode (TB.code.keeps I.bk) hP' ht hc TB.gP bP fun c' ctv h' tk hx hge hlt hrec htb => ?_
    obtain ⟨c2, oc, vs, t, e2, hoc, hd, hv⟩ := hrec
    cases e2
    have nC : H c' = none := I.hok.fresh hge
    have I1 := inv_table (t' := tk) (more := #[rawInt pos.line, rawInt pos.col, .ref c']) (h' := h') I hP hx htb hge ⟨oc, vs, t, hoc, hd, hv⟩
    have hE : ExtN H (upd (upd H P (.tbl (ps ++ #[rawInt pos.line, rawInt pos.col, .ref c']))) c' (CodeO c' (X.env.qual ++ "<lambda>"))) := fun b o e n => by
      rw [upd_ne (ne_of_none e nC), upd_ne (fun z => n ps (Option.some.inj (e.symm.trans (by rw [z]; exact hP))))]
      exact e
    have eL : (ps ++ #[rawInt pos.line, rawInt pos.col, .ref c']).toList = ps.toList ++ [rawInt pos.line, rawInt pos.col, .ref c'] := by simp
    have hT1 : Tabs T (upd (upd H P (.tbl (ps ++ #[rawInt pos.line, rawInt pos.col, .ref c']))) c' (CodeO c' (X.env.qual ++ "<lambda>"))) := fun p hp => by
      by_cases hb : p.1 = P
      · rw [hu p hp hb, hb]
        refine ⟨_, by rw [upd_ne (ne_of_none hP nC), upd_same], by rw [eL]; exact PySem.TriplesOk_snoc _ _ _ _ ht, fun p' cv hcv => ?_⟩
        rw [eL] at hcv
        rcases among_app _ ht hcv with z | z
        · obtain ⟨c0, e1, e2⟩ := ha p' cv z
          exact ⟨c0, e1, hE _ _ e2 codeO_ne⟩
        · exact ⟨c', z, upd_same⟩
      · obtain ⟨ps', a1, a2, a3⟩ := hT p hp
        refine ⟨ps', by rw [upd_ne (ne_of_none a1 nC), upd_ne hb]; exact a1, a2, fun p' cv hcv => ?_⟩
        obtain ⟨c0, e1, e2⟩ := a3 p' cv hcv
        exact ⟨c0, e1, hE _ _ e2 codeO_ne⟩
    have I2 := fn_laid (p := ⟨X.env.qual ++ "<lambda>", params, body, scope, X.env.cells, false⟩) (c' := c') (dV := .none) (doc := .none) (pm := (X.mg "__name__").getD .none) (ctv := ctv) I1
    have nf := I1.hok.fresh (Nat.le_refl h'.objs.size)
    have hs : Same (upd (upd H P (.tbl (ps ++ #[rawInt pos.line, rawInt pos.col, .ref c']))) c' (CodeO c' (X.env.qual ++ "<lambda>"))) (upd (upd (upd H P (.tbl (ps ++ #[rawInt pos.line, rawInt pos.col, .ref c']))) c' (CodeO c' (X.env.qual ++ "<lambda>"))) h'.objs.size (.ext (FnO ⟨X.env.qual ++ "<lambda>", params, body, scope, X.env.cells, false⟩ h'.objs.size c' .none))) := Same.new nf
    have hsz : s.heap.objs.size ≤ h'.objs.size := Nat.le_trans hge (Nat.le_of_lt hlt)
    exact h h'.objs.size c' _ _ I2 (hE.trans (ExtN.of hs)) (hT1.ext hs) upd_same (hs _ _ upd_same) (I.hok.fresh hsz)
  | some cv =>
    obtain ⟨c', e, hco⟩ := ha pos cv hc
    subst e
    refine PySem.W.kla_makeFunctionHit (mg := X.mg) (c := c) (P := P) (ps := ps) (closure_ok hfree) I.ok.glob (I.mod.glob.keeps I.bk) hcode (TB.code.keeps I.bk) hP' ht hc bP fun ctv h' tk hx hsz => ?_
    have I1 : Inv X pins σ H { s with heap := h', toks := tk } := I.kept fun b o e => hx b o e
    have I2 := fn_laid (p := ⟨X.env.qual ++ "<lambda>", params, body, scope, X.env.cells, false⟩) (c' := c') (dV := .none) (doc := .none) (pm := (X.mg "__name__").getD .none) (ctv := ctv) I1
    have hs : Same H (upd H h'.objs.size (.ext (FnO ⟨X.env.qual ++ "<lambda>", params, body, scope, X.env.cells, false⟩ h'.objs.size c' .none))) := Same.new (I.hok.fresh hsz)
    exact h h'.objs.size c' _ _ I2 (ExtN.of hs) (hT.ext hs) upd_same (hs _ _ hco) (I.hok.fresh hsz)
theorem make1 {T : List (Addr × Str)} {c P : Addr} {params : Arguments} {body : Expr} {scope : Scope} {pos p0 : Pos} {i : Int} {j : Nat} {E : Value → Shared → Prop} {Q : Value → Shared → Prop} (I : Inv X pins σ H s) (TB : TabB X.base X.mg c P) (hcode : X.env.code = .ref c)
    (hm : (P, X.env.qual ++ "<lambda>") ∈ T) (hu : ∀ p ∈ T, p.1 = P → p.2 = X.env.qual ++ "<lambda>") (hT : Tabs T H) (hk0 : params.kw_defaults = []) (hd : params.defaults = [.Constant (.int i) j p0]) (hfree : ∀ y ∈ scope.names, y.2 = .free → ∃ c, X.env.cells.lookup y.1 = some c)
    (h : ∀ (f c' T0 : Addr) (H1 : Hp) (s' : Shared), Inv X pins σ H1 s' → ExtN H H1 → Tabs T H1 → H1 f = some (.ext (FnO ⟨X.env.qual ++ "<lambda>", params, body, scope, X.env.cells, true⟩ f c' (.ref T0))) → H1 c' = some (CodeO c' (X.env.qual ++ "<lambda>")) → H1 T0 = some (.ext (DfO T0)) → H f = none → H T0 = none → Q (.ref f) s') :
    wpAny (model X.prog X.w) X.A (eval (.Lambda params body scope pos) X.env) Q E s := by
  refine PySem.W.kdv_lam (by rw [hd]; rfl) hk0 ?_
  rw [hd]
  refine PySem.W.kdv_all1 (wpAny_Constant_int (PySem.W.kdv_all0 ?_))
  rw [makeFunction_eq]
  simp only [List.zip_nil_right, List.filterMap_nil, List.isEmpty_nil, if_true, pure_bind, List.isEmpty_cons, Bool.false_eq_true, if_false]
  refine wpAny_bind (wpAny_newTextTuple ?_)
  have h0 : (s.heap.push (PySem.W.kdv_tup [Value.int i s.toks])).get? s.heap.objs.size = some (PySem.W.kdv_tup [Value.int i s.toks]) := Heap.get?_push_size _ rfl
  have n0 : H s.heap.objs.size = none := I.hok.fresh (Nat.le_refl _)
  have J : Inv X pins σ (upd H s.heap.objs.size (.ext (DfO s.heap.objs.size))) { s with heap := s.heap.push (PySem.W.kdv_tup [Value.int i s.toks]), toks := s.toks + 1 } :=
    I.laid (t' := s.toks + 1) (fun b o e => Heap.get?_push_of_some _ e) (Nat.le_refl _) ⟨⟨_, h0⟩, ⟨_, h0⟩, fun h1 h2 ⟨a, d⟩ k => ⟨a, k _ d⟩⟩
  have hs0 : Same H (upd H s.heap.objs.size (.ext (DfO s.heap.objs.size))) := Same.new n0
  obtain ⟨H0, eH0⟩ : ∃ H0, H0 = upd H s.heap.objs.size (.ext (DfO s.heap.objs.size)) := ⟨_, rfl⟩
  have hT0 : H0 s.heap.objs.size = some (.ext (DfO s.heap.objs.size)) := by rw [eH0]; exact upd_same
  rw [← eH0] at J hs0
  have hT' : Tabs T H0 := hT.ext hs0
  obtain ⟨ps, hP, ht, ha⟩ := hT' _ hm
  have bP : (s.heap.push (PySem.W.kdv_tup [Value.int i s.toks])).BuiltinsAt X.mg P := TB.bm.keeps J.bk
  have hP' : (s.heap.push (PySem.W.kdv_tup [Value.int i s.toks])).get? P = some { cls := .none, data := .fields ps } := J.hok P _ hP
  have lt0 : s.heap.objs.size < (s.heap.push (PySem.W.kdv_tup [Value.int i s.toks])).objs.size := Heap.lt_size h0
  cases hc : codeAmong pos ps.toList with
  | none =>
    refine PySem.W.kdv_makeTail (s := { s with heap := s.heap.push (PySem.W.kdv_tup [Value.int i s.toks]), toks := s.toks + 1 }) (mg := X.mg) (c := c) (P := P) (ps := ps) (closure_ok hfree) I.ok.glob (I.mod.glob.keeps J.bk) hcode (TB.code.keeps J.bk) hP' ht hc TB.gP bP fun c' ctv doc h' tk hx hge hlt hrec htb => ?_
    obtain ⟨c2, oc, vs, t, e2, hoc, hd, hv⟩ := hrec
    cases e2
    have nC : H0 c' = none := J.hok.fresh hge
    have I1 := inv_table (t' := tk) (more := #[rawInt pos.line, rawInt pos.col, .ref c']) (h' := h') J hP hx htb hge ⟨oc, vs, t, hoc, hd, hv⟩
    have hE : ExtN H0 (upd (upd H0 P (.tbl (ps ++ #[rawInt pos.line, rawInt pos.col, .ref c']))) c' (CodeO c' (X.env.qual ++ "<lambda>"))) := fun b o e n => by
      rw [upd_ne (ne_of_none e nC), upd_ne (fun z => n ps (Option.some.inj (e.symm.trans (by rw [z]; exact hP))))]
      exact e
    have eL : (ps ++ #[rawInt pos.line, rawInt pos.col, .ref c']).toList = ps.toList ++ [rawInt pos.line, rawInt pos.col, .ref c'] := by simp
    have hT1 : Tabs T (upd (upd H0 P (.tbl (ps ++ #[rawInt pos.line, rawInt pos.col, .ref c']))) c' (CodeO c' (X.env.qual ++ "<lambda>"))) := fun p hp => by
      by_cases hb : p.1 = P
      · rw [hu p hp hb, hb]
        refine ⟨_, by rw [upd_ne (ne_of_none hP nC), upd_same], by rw [eL]; exact PySem.TriplesOk_snoc _ _ _ _ ht, fun p' cv hcv => ?_⟩
        rw [eL] at hcv
        rcases among_app _ ht hcv with z | z
        · obtain ⟨c0, e1, e2⟩ := ha p' cv z
          exact ⟨c0, e1, hE _ _ e2 codeO_ne⟩
        · exact ⟨c', z, upd_same⟩
      · obtain ⟨ps', a1, a2, a3⟩ := hT' p hp
        refine ⟨ps', by rw [upd_ne (ne_of_none a1 nC), upd_ne hb]; exact a1, a2, fun p' cv hcv => ?_⟩
        obtain ⟨c0, e1, e2⟩ := a3 p' cv hcv
        exact ⟨c0, e1, hE _ _ e2 codeO_ne⟩
    have I2 := fn_laid (p := ⟨X.env.qual ++ "<lambda>", params, body, scope, X.env.cells, true⟩) (c' := c') (dV := .ref s.heap.objs.size) (doc := doc) (pm := (X.mg "__name__").getD .none) (ctv := ctv) I1
    have nf := I1.hok.fresh (Nat.le_refl h'.objs.size)
    have hs : Same (upd (upd H0 P (.tbl (ps ++ #[rawInt pos.line, rawInt pos.col, .ref c']))) c' (CodeO c' (X.env.qual ++ "<lambda>"))) (upd (upd (upd H0 P (.tbl (ps ++ #[rawInt pos.line, rawInt pos.col, .ref c']))) c' (CodeO c' (X.env.qual ++ "<lambda>"))) h'.objs.size (.ext (FnO ⟨X.env.qual ++ "<lambda>", params, body, scope, X.env.cells, true⟩ h'.objs.size c' (.ref s.heap.objs.size)))) := Same.new nf
    have hsz : s.heap.objs.size ≤ h'.objs.size := Nat.le_trans (Nat.le_of_lt lt0) (Nat.le_trans hge (Nat.le_of_lt hlt))
    exact h h'.objs.size c' s.heap.objs.size _ _ I2 ((ExtN.of hs0).trans (hE.trans (ExtN.of hs))) (hT1.ext hs) upd_same (hs _ _ upd_same) (hs _ _ (hE _ _ hT0 fun _ z => by cases z)) (I.hok.fresh hsz) n0
  | some cv =>
    obtain ⟨c', e, hco⟩ := ha pos cv hc
    subst e
    refine PySem.W.kdv_makeTailHit (s := { s with heap := s.heap.push (PySem.W.kdv_tup [Value.int i s.toks]), toks := s.toks + 1 }) (mg := X.mg) (c := c) (P := P) (ps := ps) (closure_ok hfree) I.ok.glob (I.mod.glob.keeps J.bk) hcode (TB.code.keeps J.bk) hP' ht hc bP fun ctv doc h' tk hx hsz => ?_
    have I1 : Inv X pins σ H0 { s with heap := h', toks := tk } := J.kept fun b o e => hx b o e
    have I2 := fn_laid (p := ⟨X.env.qual ++ "<lambda>", params, body, scope, X.env.cells, true⟩) (c' := c') (dV := .ref s.heap.objs.size) (doc := doc) (pm := (X.mg "__name__").getD .none) (ctv := ctv) I1
    have hs : Same H0 (upd H0 h'.objs.size (.ext (FnO ⟨X.env.qual ++ "<lambda>", params, body, scope, X.env.cells, true⟩ h'.objs.size c' (.ref s.heap.objs.size)))) := Same.new (J.hok.fresh hsz)
    exact h h'.objs.size c' s.heap.objs.size _ _ I2 ((ExtN.of hs0).trans (ExtN.of hs)) (hT'.ext hs) upd_same (hs _ _ hco) (hs _ _ hT0) (I.hok.fresh (Nat.le_trans (Nat.le_of_lt lt0) hsz)) n0
end
def fnM (k : Nat) (p : FnKey) : M D := ret (.fn k p)
section
variable {X : Cx} {C : Ct}
theorem ok_code {K : PySem.W.Frag} {T : List (Addr × Str)} {G H : Hp} {ι : List Addr} {σ : L2.St} {e : En} {c : Addr} {q : Str} (k : Ok K T G ι H σ e) (hc : H c = some (CodeO c q)) : ∃ G', Up G ι G' ι ∧ Ok K T G' ι H σ e ∧ G' c = some (CodeO c q) := by
  cases g : G c with
  | some o =>
    have := k.hs.s _ _ g
    rw [hc] at this
    cases this
    exact ⟨G, Up.refl, k, g⟩
  | none =>
    refine ⟨_, up_new g, k.frz g (fun m => ?_) hc (fun ps => codeO_ne ps), upd_same⟩
    obtain ⟨j, hj⟩ := List.mem_iff_getElem?.mp m
    have hl : j < e.h.length := by rw [← k.hs.len]; exact (List.getElem?_eq_some_iff.mp hj).1
    obtain ⟨ho, h1, _, h3⟩ := (k.hs.ob j c _ hj (List.getElem?_eq_getElem hl)).obj
    rw [hc] at h1
    cases h1
    exact h3 c q rfl
theorem v_lam0 {kk : Nat} {c P : Addr} {params : Arguments} {body : Expr} {scope : Scope} {pos : Pos} (TB : TabB X.base X.mg c P) (hcode : X.env.code = .ref c) (hm : (P, X.env.qual ++ "<lambda>") ∈ C.T) (hu : ∀ p ∈ C.T, p.1 = P → p.2 = X.env.qual ++ "<lambda>") (L : LamS X.env.scope scope) (hdef : defaultsOf params X.env = ([], [])) :
    PE X (.Lambda params body scope pos) (tF C (fnM kk ⟨X.env.qual ++ "<lambda>", params, body, scope, X.env.cells, false⟩)) := by
  refine ⟨fun pins s σ H Q I h => ?_⟩
  obtain ⟨G, ι, e, k, h⟩ := h
  refine make0 I TB hcode hm hu k.tb hdef (L.has I.ok) fun f c' H1 s' I1 eN T1 hf hc hn => ?_
  have k1 : Ok C.K C.T G ι H1 σ e := ⟨k.hs.ext eN, k.sl, T1⟩
  have k2 := k1.frz (k.hs.gnone hn) (k.hs.not_mem hn) hf
  obtain ⟨G3, u3, k3, hc3⟩ := ok_code k2 hc
  have u := (up_new (ι := ι) (o := .ext (FnO ⟨X.env.qual ++ "<lambda>", params, body, scope, X.env.cells, false⟩ f c' .none)) (k.hs.gnone hn)).trans u3
  exact ⟨.ref f, H1, I1, rfl, h G3 ι H1 u k3 _ (.fn (u3.g _ _ upd_same) hc3 (by unfold DfOk; rw [if_neg (by simp)]))⟩
theorem v_lam1 {kk : Nat} {c P : Addr} {params : Arguments} {body : Expr} {scope : Scope} {pos p0 : Pos} {i : Int} {j : Nat} {b0 : Str} (TB : TabB X.base X.mg c P) (hcode : X.env.code = .ref c) (hm : (P, X.env.qual ++ "<lambda>") ∈ C.T) (hu : ∀ p ∈ C.T, p.1 = P → p.2 = X.env.qual ++ "<lambda>") (L : LamY.LamP X.N X.env.scope scope b0) (hk0 : params.kw_defaults = []) (hd : params.defaults = [.Constant (.int i) j p0]) :
    PE X (.Lambda params body scope pos) (tF C (fnM kk ⟨X.env.qual ++ "<lambda>", params, body, scope, X.env.cells, true⟩)) := by
  refine ⟨fun pins s σ H Q I h => ?_⟩
  obtain ⟨G, ι, e, k, h⟩ := h
  refine make1 I TB hcode hm hu k.tb hk0 hd (L.has I.ok) fun f c' T0 H1 s' I1 eN T1 hf hc h0 hn n0 => ?_
  have k1 : Ok C.K C.T G ι H1 σ e := ⟨k.hs.ext eN, k.sl, T1⟩
  have k2 := k1.frz (k.hs.gnone hn) (k.hs.not_mem hn) hf
  have nT : T0 ≠ f := fun z => by
    subst z
    rw [hf] at h0
    have e1 := HO.ext.inj (Option.some.inj h0)
    obtain ⟨⟨a, b, d, g⟩, _, _⟩ := I1.hok _ _ hf
    have x : DfO T0 s'.heap := by rw [← e1]; exact ⟨a, b, d, g⟩
    obtain ⟨dv, g2⟩ := x
    rw [g] at g2
    have e2 := congrArg Obj.cls (Option.some.inj g2)
    exact absurd (show Value.type "function" = Value.type "tuple" from e2) (by decide)
  have g0 : (upd G f (.ext (FnO ⟨X.env.qual ++ "<lambda>", params, body, scope, X.env.cells, true⟩ f c' (.ref T0)))) T0 = none := by rw [upd_ne nT]; exact k.hs.gnone n0
  have k3 := k2.frz g0 (k.hs.not_mem n0) h0
  obtain ⟨G4, u4, k4, hc4⟩ := ok_code k3 hc
  have u2 := up_new (ι := ι) (o := .ext (FnO ⟨X.env.qual ++ "<lambda>", params, body, scope, X.env.cells, true⟩ f c' (.ref T0))) (k.hs.gnone hn)
  have u3 := up_new (ι := ι) (o := .ext (DfO T0)) g0
  exact ⟨.ref f, H1, I1, rfl, h G4 ι H1 ((u2.trans u3).trans u4) k4 _ (.fn ((u3.trans u4).g _ _ upd_same) hc4 (by unfold DfOk; rw [if_pos rfl]; exact ⟨T0, rfl, u4.g _ _ upd_same⟩))⟩
end
noncomputable def kindFM (tbl : List (FnKey × M D)) (fx : M D) : M D := bnd fx fun d => match d with
  | .fn k p => match tbl[k]? with
    | some (p', f) => fun e => open Classical in if p = p' then kindM f e else .stuck
    | none => fun _ => .stuck
  | _ => fun _ => .stuck
def bitsM (f : M D) : M D := bnd f fun d => match d with
  | .int i => ret (.int (Builtin.Int.intBits i : Nat))
  | _ => fun _ => .stuck
@[simp] theorem x_bitsM (f : M D) (e : En) : bitsM f e = bnd f (fun d => match d with
  | .int i => ret (.int (Builtin.Int.intBits i : Nat))
  | _ => fun _ => .stuck) e := rfl
theorem v_bits {X : Cx} {C : Ct} {e : Expr} {f : M D} (p : PE X e (tBits (tF C f))) : PE X e (tF C (bitsM f)) := imE p fun σ H Q h => by
  obtain ⟨G, ι, en, k0, h⟩ := h
  refine ⟨G, ι, en, k0, PX.imp (PX.bnd h) fun d e1 G1 ι1 H1 u1 k1 q1 v rv => ?_⟩
  cases d with
  | int i =>
    cases rv
    exact ⟨i, rfl, q1 G1 ι1 H1 Up.refl k1 _ (.int _)⟩
  | _ => exact q1.elim
theorem law_okF {P : Program} {w : World} {K : PySem.W.Frag} {mg : Str → Option Value} {base : Heap} {params : Arguments} {body : List Stmt} {scope : Scope} {fd : FuncData} {N : List Str} {k : Nat} {Bs : M Fl → Prop} {Tb : List (Addr × Str)}
    (F : FunD K "law" "law" params body scope [] [] (He.fAd K ("law", none)) fd) (S : FnScope N ["_law_script"] scope) (htb : ∀ H : Hp, H (He.cT K ("law", none)).2 = some (.tbl #[]) → LamX.Tabs Tb H)
    (hbody : ∀ (A : Around) (outer : List Env) (s : Shared) (H : Hp) (E : XK), Room k (A.deeper (envOfC "law" scope s.heap.objs.size (He.fAd K ("law", none)) (.ref (He.codeOf K ("law", none))))) →
      ∃ b, Bs b ∧ PSs (cxOf L2.CX0 P w K mg base N "law" scope (He.fAd K ("law", none)) (.ref (He.codeOf K ("law", none))) A outer s H E) body (tFS ⟨K, Tb, fun _ _ _ _ => False⟩ b))
    (hF : ∀ b, Bs b → ∀ ns : List Int, ns.length ≤ 63 → ∃ h', defF N.length b [.scr (ns.map D.int)] [] = .ok (.bl true) h') : FnOk P w K mg base L2.CX0 (k + 1) (He.fAd K ("law", none)) fd ["_law_script"] (spLaw K) := by
  refine okC ("law", none) F S (fun vs H Q E h => ?_) (fun A outer s H vs Q E hr h => ?_)
  · obtain ⟨sc, ns, rfl, _⟩ := h
    rfl
  · obtain ⟨sc, ns, rfl, hS, hl, hT, q⟩ := h
    obtain ⟨h1, h2⟩ := hs_start hS
    obtain ⟨b, hb, hp⟩ := hbody A outer s H E hr
    obtain ⟨h', e⟩ := hF b hb ns hl
    have r : RDs K (G0 H sc (ns.map V.int)) [] [.scr (ns.map D.int)] [.ref sc] := .one (.scr h2 (rd_ints (K := K) (G := G0 H sc (ns.map V.int)) (ι := []) ns).1 (rd_ints ns).2)
    refine ⟨_, hp, _, [], ⟨start0 N.length [.scr (ns.map D.int)], []⟩, ⟨h1, sls_start r, htb H hT⟩, def_end (C := ⟨K, Tb, fun _ _ _ _ => False⟩) (E := fun _ _ _ => False) (fun _ _ _ _ z => z) ?_⟩
    rw [e]
    intro G' ι' H' v u s t rv
    cases rv
    exact q H'
end LamK
namespace Fv
end Fv
set_option autoImplicit false
set_option Elab.async false
set_option linter.all false
set_option maxRecDepth 100000
set_option maxHeartbeats 4000000
namespace Lk26
open PySem PySem.Spec PyProof.Rows L2 Bm Fv LamK
section
variable {P : Program} {w : World} {K : PySem.W.Frag} {mg : Str → Option Value} {base : Heap}
theorem sc_is_whole : FnScope ["thing", "low", "high"] ["thing", "low", "high"] (defScope s_is_whole) := ⟨rfl, rfl, rfl, by decide +kernel, rfl, by decide +kernel, by decide +kernel⟩
noncomputable def B_is_whole : M Fl :=
  (retM (andV (cN isiD (consM (eV 0) (consM (ret (.typ "int")) nilM))) (andV (notV (cN isiD (consM (eV 0) (consM (ret (.typ "bool")) nilM)))) (chM leD leD (eV 1) (eV 0) (eV 2)))))
noncomputable def F_is_whole : Fun := defF 3 B_is_whole
set_option maxHeartbeats 16000000 in
theorem ok_is_whole (T : Txt K mg) (Df : Defs K) {f : Addr} {fd : FuncData} (F : FunD K "is_whole" "is_whole" (defArgs s_is_whole) (defBody s_is_whole) (defScope s_is_whole) [.int (0), .int (65535)] [] f fd) : FnOk P w K mg base (L2.CX P w) 1 f fd ["thing", "low", "high"] (spF K 3 F_is_whole) := by
  refine okF (k := 0) F sc_is_whole fun cdv A outer s H E Tb hr => ?_
  exact (s_one (s_ret (v_and (v_b s_isi (pe_callB call_isi rfl T.b_isinstance (by decide +kernel) (a_cons (v_var (pv 0)) (a_cons (v_con (pe_bltn (v := .ty "int") rfl T.b_int (by decide +kernel) rfl) (fun _ _ => .typ _)) a_nil)))) (v_and (v_not (v_b s_isi (pe_callB call_isi rfl T.b_isinstance (by decide +kernel) (a_cons (v_var (pv 0)) (a_cons (v_con (pe_bltn (v := .ty "bool") rfl T.b_bool (by decide +kernel) rfl) (fun _ _ => .typ _)) a_nil))))) (v_one (v_chain op_le op_le s_le s_le (v_var (pv 1)) (v_var (pv 0)) (v_var (pv 2))))))))
theorem fn_is_whole (T : Txt K mg) (Df : Defs K) : Fn P w K mg base (L2.CX P w) 1 "is_whole" (spF K 3 F_is_whole) [] := by
  obtain ⟨fd, F⟩ := Df.is_whole
  exact .of F T.g_is_whole (F.binds1 (ps := ["thing", "low", "high"]) 3 2 (by simp) rfl fun T kV doc pm an cdv ct us its h1 h2 => match us, h1, its, h2 with | [_, _, _], _, [_, _], _ => ⟨_, rfl, rfl⟩) (ok_is_whole T Df F)
end
section
variable {P : Program} {w : World} {K : PySem.W.Frag} {mg : Str → Option Value} {base : Heap}
theorem sc_is_odd : FnScope ["word", "found"] ["word"] (defScope s_is_odd) := ⟨rfl, rfl, rfl, by decide +kernel, rfl, by decide +kernel, by decide +kernel⟩
noncomputable def B_is_odd : M Fl :=
  (seqM (setM (ret (.int (0))) (putS 1))
  (seqM (whM (bM (e2 gtD (eV 0) (ret (.int (0))))) (seqM (augM 1 xorD (e2 andD (eV 0) (ret (.int (1)))))
  (augM 0 shrD (ret (.int (1))))) 100000)
  (retM (e2 eqD (eV 1) (ret (.int (1)))))))
noncomputable def F_is_odd : Fun := defF 2 B_is_odd
set_option maxHeartbeats 16000000 in
theorem ok_is_odd (T : Txt K mg) (Df : Defs K) {f : Addr} {fd : FuncData} (F : FunD K "is_odd" "is_odd" (defArgs s_is_odd) (defBody s_is_odd) (defScope s_is_odd) [] [] f fd) : FnOk P w K mg base (L2.CX P w) 1 f fd ["word"] (spF K 1 F_is_odd) := by
  refine okF (k := 0) F sc_is_odd fun cdv A outer s H E Tb hr => ?_
  exact (s_cons (s_set (ps_set (i := 1) sc_is_odd.nd rfl (Or.inl rfl) v_int))
  (s_cons (s_while 100000 (ps_while (passes_of rfl) (v_tcmp op_gt s_gt (v_var (pv 0)) v_int (nomark _)) (s_cons (s_aug s_xor (ps_aug (i := 1) sc_is_odd.nd rfl (Or.inl rfl) (v_op op_and s_and (v_var (pv 0)) v_int) (pip_of iop_xor)))
  (s_one (s_aug s_shr (ps_aug (i := 0) sc_is_odd.nd rfl (Or.inl rfl) v_int (pip_of iop_shr)))))))
  (s_one (s_ret (v_cmp (opA_eq hr.units) s_eq (v_var (pv 1)) v_int (nomark _))))))
theorem fn_is_odd (T : Txt K mg) (Df : Defs K) : Fn P w K mg base (L2.CX P w) 1 "is_odd" (spF K 1 F_is_odd) [] := by
  obtain ⟨fd, F⟩ := Df.is_odd
  exact .of F T.g_is_odd (bnd0 F fun _ _ _ _ _ _ us hl => match us, hl with | [_], _ => rfl) (ok_is_odd T Df F)
end
section
variable {P : Program} {w : World} {K : PySem.W.Frag} {mg : Str → Option Value} {base : Heap}
theorem sc_columns_of : FnScope ["words", "found", "word"] ["words"] (defScope s_columns_of) := ⟨rfl, rfl, rfl, by decide +kernel, rfl, by decide +kernel, by decide +kernel⟩
noncomputable def B_columns_of : M Fl :=
  (seqM (setM (ret (.int (0))) (putS 1))
  (seqM (forM (seqI (eV 0)) (putS 2) (augM 1 xorD (eV 2)))
  (retM (eV 1))))
noncomputable def F_columns_of : Fun := defF 3 B_columns_of
set_option maxHeartbeats 16000000 in
theorem ok_columns_of (T : Txt K mg) (Df : Defs K) {f : Addr} {fd : FuncData} (F : FunD K "columns_of" "columns_of" (defArgs s_columns_of) (defBody s_columns_of) (defScope s_columns_of) [] [] f fd) : FnOk P w K mg base (L2.CX P w) 1 f fd ["words"] (spF K 1 F_columns_of) := by
  refine okF (k := 0) F sc_columns_of fun cdv A outer s H E Tb hr => ?_
  exact (s_cons (s_set (ps_set (i := 1) sc_columns_of.nd rfl (Or.inl rfl) v_int))
  (s_cons (s_for (ps_for (passes_of rfl) rfl (i_seq (pi_seq (v_var (pv 0)))) (g_name (pg_name (i := 2) sc_columns_of.nd rfl (Or.inl rfl))) (s_one (s_aug s_xor (ps_aug (i := 1) sc_columns_of.nd rfl (Or.inl rfl) (v_var (pv 2)) (pip_of iop_xor))))))
  (s_one (s_ret (v_var (pv 1))))))
theorem fn_columns_of (T : Txt K mg) (Df : Defs K) : Fn P w K mg base (L2.CX P w) 1 "columns_of" (spF K 1 F_columns_of) [] := by
  obtain ⟨fd, F⟩ := Df.columns_of
  exact .of F T.g_columns_of (bnd0 F fun _ _ _ _ _ _ us hl => match us, hl with | [_], _ => rfl) (ok_columns_of T Df F)
end
section
variable {P : Program} {w : World} {K : PySem.W.Frag} {mg : Str → Option Value} {base : Heap}
theorem sc_need_block : FnScope ["block", "number", "word"] ["block"] (defScope s_need_block) := ⟨rfl, rfl, rfl, by decide +kernel, rfl, by decide +kernel, by decide +kernel⟩
noncomputable def B_need_block : M Fl :=
  (seqM (forM (enumI (consM (eV 0) nilM)) (tupG 2 (consG (putS 1) (consG (putS 2) nilG))) (ifS (orM (bM (e2 eqD (eV 1) (e2 addD (ret (.int (14))) (ret (.int (2)))))) (notM (bM (callM F_is_whole [] (consM (eV 2) (consM (ret (.int (0))) (consM (ret (.int (65535))) nilM)))))))
  (raiseN "BadImage" (consM (eV 1) nilM))
  (ret .nx)))
  (ifS (bM (e2 ltD (cN lenD (consM (eV 0) nilM)) (ret (.int (3)))))
  (raiseN "BadImage" (consM (cN lenD (consM (eV 0) nilM)) nilM))
  (ret .nx)))
noncomputable def F_need_block : Fun := defF 3 B_need_block
set_option maxHeartbeats 16000000 in
theorem ok_need_block (T : Txt K mg) (Df : Defs K) {f : Addr} {fd : FuncData} (F : FunD K "need_block" "need_block" (defArgs s_need_block) (defBody s_need_block) (defScope s_need_block) [] [] f fd) : FnOk P w K mg base (L2.CX P w) 3 f fd ["block"] (spF K 1 F_need_block) := by
  refine okF (k := 2) F sc_need_block fun cdv A outer s H E Tb hr => ?_
  exact (s_cons (s_for (ps_for (passes_of rfl) rfl (i_enum (pi_enumA rfl T.b_enumerate (a_cons (v_var (pv 0)) a_nil))) (g_tup (pg_tup rfl (gs_cons (pgs_cons (g_name (pg_name (i := 1) sc_need_block.nd rfl (Or.inl rfl))) (gs_cons (pgs_cons (g_name (pg_name (i := 2) sc_need_block.nd rfl (Or.inl rfl))) gs_nil)))))) (s_one (s_if (PW.pt (w_or (v_tcmp (opA_eq hr.units) s_eq (v_var (pv 1)) (v_op opA_add s_add (v_con (pe_gc rfl T.i_MOST_BLOCK) (fun _ _ => .int _)) v_int) (nomark _)) (w_or1 (t_not (v_test (v_call (fun _ _ => .nil) (len_app (len_cons (len_cons (len_cons len_nil))) rfl) (pe_fS (fn_is_whole T Df) hr (by decide) (fun σ => passAt (takes_of rfl rfl rfl rfl) σ) (a_cons (v_var (pv 2)) (a_cons v_int (a_cons (v_con (pe_gc rfl T.i_LAST) (fun _ _ => .int _)) a_nil)))))))))) (s_one (s_raiseQ (T.y.num "BadImage" (by decide)).1 (T.y.num "BadImage" (by decide)).2.2.1 rfl (takes_of rfl rfl rfl rfl) (pmk_num T "BadImage" (by decide) T.c_BadImage (num_I T Df) hr (by decide) (a_cons (v_var (pv 1)) a_nil)))) s_nil))))
  (s_one (s_if (v_tcmp op_lt s_lt (v_b s_len (pe_callB call_len rfl T.b_len (by decide +kernel) (a_cons (v_var (pv 0)) a_nil))) v_int (nomark _)) (s_one (s_raiseQ (T.y.num "BadImage" (by decide)).1 (T.y.num "BadImage" (by decide)).2.2.1 rfl (takes_of rfl rfl rfl rfl) (pmk_num T "BadImage" (by decide) T.c_BadImage (num_I T Df) hr (by decide) (a_cons (v_b s_len (pe_callB call_len rfl T.b_len (by decide +kernel) (a_cons (v_var (pv 0)) a_nil))) a_nil)))) s_nil)))
theorem fn_need_block (T : Txt K mg) (Df : Defs K) : Fn P w K mg base (L2.CX P w) 3 "need_block" (spF K 1 F_need_block) [] := by
  obtain ⟨fd, F⟩ := Df.need_block
  exact .of F T.g_need_block (bnd0 F fun _ _ _ _ _ _ us hl => match us, hl with | [_], _ => rfl) (ok_need_block T Df F)
end
section
variable {P : Program} {w : World} {K : PySem.W.Frag} {mg : Str → Option Value} {base : Heap}
theorem sc_bits_in : FnScope ["word", "at"] ["word"] (defScope s_bits_in) := ⟨rfl, rfl, rfl, by decide +kernel, rfl, by decide +kernel, by decide +kernel⟩
noncomputable def B_bits_in : M Fl :=
  (retM (dropM (lcP (.one 1) [1] (rng1 (consM (bitsM (eV 0)) nilM)) (bM (e2 eqD (e2 andD (e2 shrD (eV 0) (eV 1)) (ret (.int (1)))) (ret (.int (1))))) (eV 1))))
noncomputable def F_bits_in : Fun := defF 2 B_bits_in
set_option maxHeartbeats 16000000 in
theorem ok_bits_in (T : Txt K mg) (Df : Defs K) {f : Addr} {fd : FuncData} (F : FunD K "bits_in" "bits_in" (defArgs s_bits_in) (defBody s_bits_in) (defScope s_bits_in) [] [] f fd) : FnOk P w K mg base (L2.CX P w) 1 f fd ["word"] (spF K 1 F_bits_in) := by
  refine okF (k := 0) F sc_bits_in fun cdv A outer s H E Tb hr => ?_
  exact (s_one (s_ret (v_drop (v_lc (by decide) (pe_lc (own := [("at", 1)]) (g := gName 1) rfl sc_bits_in.nd  (i_rng1 (pi_range1 rfl T.b_range (a_cons (v_bits (pe_bits (v_var (pv 0)))) a_nil))) (blkOk_by (own := [("at", 1)]) (N := ["word", "at"]) (sc := defScope s_bits_in) (by decide +kernel)) (fun _ _ _ _ _ => (pg_name (i := 1) sc_bits_in.nd rfl (Or.inl rfl))) (fun _ _ _ _ _ => ts_one (v_tcmp (opA_eq hr.units) s_eq (v_op op_and s_and (v_op op_shr s_shr (v_var (pv 0)) (v_var (pv 1))) v_int) v_int (nomark _))) (fun _ _ _ _ _ => (v_var (pv 1))))))))
theorem fn_bits_in (T : Txt K mg) (Df : Defs K) : Fn P w K mg base (L2.CX P w) 1 "bits_in" (spF K 1 F_bits_in) [] := by
  obtain ⟨fd, F⟩ := Df.bits_in
  exact .of F T.g_bits_in (bnd0 F fun _ _ _ _ _ _ us hl => match us, hl with | [_], _ => rfl) (ok_bits_in T Df F)
end
section
variable {P : Program} {w : World} {K : PySem.W.Frag} {mg : Str → Option Value} {base : Heap}
theorem sc_mended : FnScope ["block", "many", "words", "columns", "at", "odd_rows", "rows", "word"] ["block"] (defScope s_mended) := ⟨rfl, rfl, rfl, by decide +kernel, rfl, by decide +kernel, by decide +kernel⟩
noncomputable def B_mended : M Fl :=
  (seqM (exprM (callM F_need_block [] (consM (eV 0) nilM)))
  (seqM (setM (e2 subD (cN lenD (consM (eV 0) nilM)) (ret (.int (2)))) (putS 1))
  (seqM (setM (pubM (cO listD (consM (slM (eV 0) (prt none) (prt (some (eV 1)))) nilM))) (putS 2))
  (seqM (setM (callM F_bits_in [] (consM (callM F_columns_of [] (consM (slM (eV 0) (prt none) (prt (some (e2 addD (eV 1) (ret (.int (1))))))) nilM)) nilM)) (putS 3))
  (seqM (setM (e2 addD (dropM (lcPC (.tup [4, 7]) [4, 7] (enumC (consM (eV 2) nilM)) (ret true) (e2 shlD (cN intD (consM (callM F_is_odd [] (consM (eV 7) nilM)) nilM)) (eV 4)))) (frzM (lstM (consM (e2 shlD (cN intD (consM (callM F_is_odd [] (consM (e2 ixD (eV 0) (eV 1)) nilM)) nilM)) (ret (.int (14)))) nilM)))) (putS 5))
  (seqM (setM (callM F_bits_in [] (consM (e2 xorD (cN sumA (consM (eV 5) nilM)) (e2 ixD (eV 0) (e2 addD (eV 1) (ret (.int (1)))))) nilM)) (putS 6))
  (seqM (ifS (andM (bM (e2 eqD (eV 6) (frzM (lstM nilM)))) (bM (e2 eqD (eV 3) (frzM (lstM nilM)))))
  (retM (tupM (consM (cN tupleD (consM (eV 2) nilM)) (consM (ret .non) nilM))))
  (ret .nx))
  (seqM (ifS (orM (bM (e2 neD (cN lenD (consM (eV 6) nilM)) (ret (.int (1))))) (bM (e2 gtD (cN lenD (consM (eV 3) nilM)) (ret (.int (1))))))
  (raiseM "NoMend")
  (ret .nx))
  (seqM (setM (e2 ixD (eV 6) (ret (.int (0)))) (putS 4))
  (seqM (ifS (bM (e2 eqD (eV 3) (frzM (lstM nilM))))
  (retM (tupM (consM (cN tupleD (consM (eV 2) nilM)) (consM (tupM (consM (e2 addD (eV 1) (ret (.int (1)))) (consM (eV 4) nilM))) nilM))))
  (ret .nx))
  (seqM (ifS (bM (e2 ltD (eV 4) (eV 1)))
  (seqM (augI xorD (eV 2) (eV 4) (e2 shlD (ret (.int (1))) (e2 ixD (eV 3) (ret (.int (0))))))
  (retM (tupM (consM (cN tupleD (consM (eV 2) nilM)) (consM (tupM (consM (eV 4) (consM (e2 ixD (eV 3) (ret (.int (0)))) nilM))) nilM)))))
  (ret .nx))
  (seqM (ifS (bM (e2 neD (eV 4) (ret (.int (14)))))
  (raiseM "NoMend")
  (ret .nx))
  (retM (tupM (consM (cN tupleD (consM (eV 2) nilM)) (consM (tupM (consM (eV 1) (consM (e2 ixD (eV 3) (ret (.int (0)))) nilM))) nilM))))))))))))))))
noncomputable def F_mended : Fun := (finF (defF 8 B_mended))
set_option maxHeartbeats 16000000 in
theorem ok_mended (T : Txt K mg) (Df : Defs K) {f : Addr} {fd : FuncData} (F : FunD K "mended" "mended" (defArgs s_mended) (defBody s_mended) (defScope s_mended) [] [] f fd) : FnOk P w K mg base (L2.CX P w) 4 f fd ["block"] (spF K 1 F_mended) := by
  refine FnOk.imp (okF (k := 3) F sc_mended fun cdv A outer s H E Tb hr => ?_) imFin
  exact (s_cons (s_expr (v_call (fun _ _ => .nil) (len_app (len_cons len_nil) rfl) (pe_fS (fn_need_block T Df) hr (by decide) (fun σ => passAt (takes_of rfl rfl rfl rfl) σ) (a_cons (v_var (pv 0)) a_nil))))
  (s_cons (s_set (ps_set (i := 1) sc_mended.nd rfl (Or.inl rfl) (v_op op_sub s_sub (v_b s_len (pe_callB call_len rfl T.b_len (by decide +kernel) (a_cons (v_var (pv 0)) a_nil))) v_int)))
  (s_cons (s_set (ps_set (i := 2) sc_mended.nd rfl (Or.inl rfl) (v_pub (o_b s_list (pe_callTy call_list_of rfl T.b_list (by decide +kernel) (a_cons (v_sl rfl (v_var (pv 0)) p_none (p_some (v_var (pv 1)))) a_nil))))))
  (s_cons (s_set (ps_set (i := 3) sc_mended.nd rfl (Or.inl rfl) (v_call (fun _ _ => .nil) (len_app (len_cons len_nil) rfl) (pe_fS (fn_bits_in T Df) hr (by decide) (fun σ => passAt (takes_of rfl rfl rfl rfl) σ) (a_cons (v_call (fun _ _ => .nil) (len_app (len_cons len_nil) rfl) (pe_fS (fn_columns_of T Df) hr (by decide) (fun σ => passAt (takes_of rfl rfl rfl rfl) σ) (a_cons (v_sl rfl (v_var (pv 0)) p_none (p_some (v_op opA_add s_add (v_var (pv 1)) v_int))) a_nil))) a_nil)))))
  (s_cons (s_set (ps_set (i := 5) sc_mended.nd rfl (Or.inl rfl) (v_op opA_add s_add (v_drop (v_lcC (by decide) (pe_lc (own := [("at", 4), ("word", 7)]) (g := gTup K 2 (gNames [4, 7])) rfl sc_mended.nd  (ic_enum (pi_enumA rfl T.b_enumerate (a_cons (v_var (pv 2)) a_nil))) (blkOk_by (own := [("at", 4), ("word", 7)]) (N := ["block", "many", "words", "columns", "at", "odd_rows", "rows", "word"]) (sc := defScope s_mended) (by decide +kernel)) (fun _ _ _ _ _ => (pg_tup rfl (pgs_cons (pg_name (i := 4) sc_mended.nd rfl (Or.inl rfl)) (pgs_cons (pg_name (i := 7) sc_mended.nd rfl (Or.inl rfl)) pgs_nil)))) (fun _ _ _ _ _ => ts_nil) (fun _ _ _ _ _ => (v_op op_shl s_shl (v_b s_int (pe_callTy call_int1 rfl T.b_int (by decide +kernel) (a_cons (v_call (fun _ _ => .nil) (len_app (len_cons len_nil) rfl) (pe_fS (fn_is_odd T Df) hr (by decide) (fun σ => passAt takes0 σ) (a_cons (v_var (pv 7)) a_nil))) a_nil))) (v_var (pv 4))))))) (v_frz (o_lst (a_cons (v_op op_shl s_shl (v_b s_int (pe_callTy call_int1 rfl T.b_int (by decide +kernel) (a_cons (v_call (fun _ _ => .nil) (len_app (len_cons len_nil) rfl) (pe_fS (fn_is_odd T Df) hr (by decide) (fun σ => passAt (takes_of rfl rfl rfl rfl) σ) (a_cons (v_ix ix_seq s_ix (v_var (pv 0)) (v_var (pv 1)) (fun _ _ => rfl)) a_nil))) a_nil))) (v_con (pe_gc rfl T.i_MOST_BLOCK) (fun _ _ => .int _))) a_nil))))))
  (s_cons (s_set (ps_set (i := 6) sc_mended.nd rfl (Or.inl rfl) (v_call (fun _ _ => .nil) (len_app (len_cons len_nil) rfl) (pe_fS (fn_bits_in T Df) hr (by decide) (fun σ => passAt (takes_of rfl rfl rfl rfl) σ) (a_cons (v_op op_xor s_xor (v_b s_sumA (pe_callB (cr_sumA rfl) rfl T.b_sum (by decide +kernel) (a_cons (v_var (pv 5)) a_nil))) (v_ix ix_seq s_ix (v_var (pv 0)) (v_op opA_add s_add (v_var (pv 1)) v_int) (fun _ _ => rfl))) a_nil)))))
  (s_cons (s_if (PW.pt (w_and (v_tcmp (opA_eq hr.units) s_eq (v_var (pv 6)) (v_frz (o_lst a_nil)) (nomark _)) (w_and1 (v_tcmp (opA_eq hr.units) s_eq (v_var (pv 3)) (v_frz (o_lst a_nil)) (nomark _))))) (s_one (s_ret (v_tup (a_cons (v_b s_tuple (pe_callTy call_tuple_of rfl T.b_tuple (by decide +kernel) (a_cons (v_var (pv 2)) a_nil))) (a_cons v_non a_nil))))) s_nil)
  (s_cons (s_if (PW.pt (w_or (v_tcmp (opA_ne hr.units) s_ne (v_b s_len (pe_callB call_len rfl T.b_len (by decide +kernel) (a_cons (v_var (pv 6)) a_nil))) v_int (nomark _)) (w_or1 (v_tcmp op_gt s_gt (v_b s_len (pe_callB call_len rfl T.b_len (by decide +kernel) (a_cons (v_var (pv 3)) a_nil))) v_int (nomark _))))) (s_one (s_raiseP (x := "NoMend") rfl (takes_of rfl rfl rfl rfl) (pmk_own PySem.F.excBase_ValueError (T.y.plain "NoMend" (by decide)).1 T.c_NoMend (T.y.plain "NoMend" (by decide)).2.1 (raises_own (T.y.plain "NoMend" (by decide)).2.2.1 (T.y.plain "NoMend" (by decide)).2.2.2) rfl))) s_nil)
  (s_cons (s_set (ps_set (i := 4) sc_mended.nd rfl (Or.inl rfl) (v_ix ix_seq s_ix (v_var (pv 6)) v_int (fun _ _ => rfl))))
  (s_cons (s_if (v_tcmp (opA_eq hr.units) s_eq (v_var (pv 3)) (v_frz (o_lst a_nil)) (nomark _)) (s_one (s_ret (v_tup (a_cons (v_b s_tuple (pe_callTy call_tuple_of rfl T.b_tuple (by decide +kernel) (a_cons (v_var (pv 2)) a_nil))) (a_cons (v_tup (a_cons (v_op opA_add s_add (v_var (pv 1)) v_int) (a_cons (v_var (pv 4)) a_nil))) a_nil))))) s_nil)
  (s_cons (s_if (v_tcmp op_lt s_lt (v_var (pv 4)) (v_var (pv 1)) (nomark _)) (s_cons (s_augI s_xor (ps_augS (v_var (pv 2)) (v_var (pv 4)) get_list (v_op op_shl s_shl v_int (v_ix ix_seq s_ix (v_var (pv 3)) v_int (fun _ _ => rfl))) (pip_of iop_xor) set_list))
  (s_one (s_ret (v_tup (a_cons (v_b s_tuple (pe_callTy call_tuple_of rfl T.b_tuple (by decide +kernel) (a_cons (v_var (pv 2)) a_nil))) (a_cons (v_tup (a_cons (v_var (pv 4)) (a_cons (v_ix ix_seq s_ix (v_var (pv 3)) v_int (fun _ _ => rfl)) a_nil))) a_nil)))))) s_nil)
  (s_cons (s_if (v_tcmp (opA_ne hr.units) s_ne (v_var (pv 4)) (v_con (pe_gc rfl T.i_MOST_BLOCK) (fun _ _ => .int _)) (nomark _)) (s_one (s_raiseP (x := "NoMend") rfl (takes_of rfl rfl rfl rfl) (pmk_own PySem.F.excBase_ValueError (T.y.plain "NoMend" (by decide)).1 T.c_NoMend (T.y.plain "NoMend" (by decide)).2.1 (raises_own (T.y.plain "NoMend" (by decide)).2.2.1 (T.y.plain "NoMend" (by decide)).2.2.2) rfl))) s_nil)
  (s_one (s_ret (v_tup (a_cons (v_b s_tuple (pe_callTy call_tuple_of rfl T.b_tuple (by decide +kernel) (a_cons (v_var (pv 2)) a_nil))) (a_cons (v_tup (a_cons (v_var (pv 1)) (a_cons (v_ix ix_seq s_ix (v_var (pv 3)) v_int (fun _ _ => rfl)) a_nil))) a_nil)))))))))))))))))
theorem fn_mended (T : Txt K mg) (Df : Defs K) : Fn P w K mg base (L2.CX P w) 4 "mended" (spF K 1 F_mended) [] := by
  obtain ⟨fd, F⟩ := Df.mended
  exact .of F T.g_mended (bnd0 F fun _ _ _ _ _ _ us hl => match us, hl with | [_], _ => rfl) (ok_mended T Df F)
end
end Lk26
set_option autoImplicit false
set_option Elab.async false
set_option linter.all false
set_option maxRecDepth 100000
set_option maxHeartbeats 4000000
namespace Lk26
open PySem PySem.Spec PyProof.Rows L2 Bm Fv LamK
section
variable {P : Program} {w : World} {K : PySem.W.Frag} {mg : Str → Option Value} {base : Heap}
theorem sc_law_start : FnScope ["_law_script", "_law_mixed", "_law_cell"] ["_law_script"] (defScope s_law_start) := ⟨rfl, rfl, rfl, by decide +kernel, rfl, by decide +kernel, by decide +kernel⟩
noncomputable def B_law_start : M Fl :=
  (seqM (setM (ret (.int (1))) (putS 1))
  (seqM (forM (seqI (eV 0)) (putS 2) (setM (e2 modD (e2 addD (e2 addD (e2 mulA (eV 1) (ret (.int (48271)))) (eV 2)) (ret (.int (7)))) (ret (.int (2147483647)))) (putS 1)))
  (retM (pubM (lstM (consM (eV 0) (consM (ret (.int (0))) (consM (eV 1) (consM (ret (.int (0))) nilM)))))))))
noncomputable def F_law_start : Fun := defF 3 B_law_start
set_option maxHeartbeats 16000000 in
theorem ok_law_start (T : Txt K mg) (Df : Defs K) {f : Addr} {fd : FuncData} (F : FunD K "_law_start" "_law_start" (defArgs s_law_start) (defBody s_law_start) (defScope s_law_start) [] [] f fd) : FnOk P w K mg base (L2.CX P w) 1 f fd ["_law_script"] (spF K 1 F_law_start) := by
  refine okF (k := 0) F sc_law_start fun cdv A outer s H E Tb hr => ?_
  exact (s_cons (s_set (ps_set (i := 1) sc_law_start.nd rfl (Or.inl rfl) v_int))
  (s_cons (s_for (ps_for (passes_of rfl) rfl (i_seq (pi_seq (v_var (pv 0)))) (g_name (pg_name (i := 2) sc_law_start.nd rfl (Or.inl rfl))) (s_one (s_set (ps_set (i := 1) sc_law_start.nd rfl (Or.inl rfl) (v_op op_mod s_mod (v_op opA_add s_add (v_op opA_add s_add (v_op opA_mul s_mul (v_var (pv 1)) v_int) (v_var (pv 2))) v_int) v_int))))))
  (s_one (s_ret (v_pub (o_lst (a_cons (v_var (pv 0)) (a_cons v_int (a_cons (v_var (pv 1)) (a_cons v_int a_nil))))))))))
theorem fn_law_start (T : Txt K mg) (Df : Defs K) : Fn P w K mg base (L2.CX P w) 1 "_law_start" (spF K 1 F_law_start) [] := by
  obtain ⟨fd, F⟩ := Df.law_start
  exact .of F T.g_law_start (bnd0 F fun _ _ _ _ _ _ us hl => match us, hl with | [_], _ => rfl) (ok_law_start T Df F)
end
section
variable {P : Program} {w : World} {K : PySem.W.Frag} {mg : Str → Option Value} {base : Heap}
theorem sc_law_drawn : FnScope ["_law_state", "_law_many", "_law_found", "_law_cell"] ["_law_state", "_law_many"] (defScope s_law_drawn) := ⟨rfl, rfl, rfl, by decide +kernel, rfl, by decide +kernel, by decide +kernel⟩
noncomputable def B_law_drawn : M Fl :=
  (seqM (ifS (bM (e2 gtD (e2 ixD (eV 0) (ret (.int (3)))) (ret (.int (0)))))
  (seqM (setM (e2 modD (e2 ixD (eV 0) (ret (.int (3)))) (eV 1)) (putS 2))
  (seqM (setI (e2 divD (e2 ixD (eV 0) (ret (.int (3)))) (eV 1)) (eV 0) (ret (.int (3))))
  (retM (eV 2))))
  (ret .nx))
  (seqM (setI (e2 addD (e2 ixD (eV 0) (ret (.int (1)))) (ret (.int (1)))) (eV 0) (ret (.int (1))))
  (seqM (ifS (bM (e2 leD (e2 ixD (eV 0) (ret (.int (1)))) (cN lenD (consM (e2 ixD (eV 0) (ret (.int (0)))) nilM))))
  (seqM (setM (e2 ixD (e2 ixD (eV 0) (ret (.int (0)))) (e2 subD (e2 ixD (eV 0) (ret (.int (1)))) (ret (.int (1))))) (putS 3))
  (seqM (setI (ifM (bM (e2 geD (eV 3) (e2 powD (ret (.int (10))) (ret (.int (18)))))) (e2 divD (eV 3) (eV 1)) (ret (.int (0)))) (eV 0) (ret (.int (3))))
  (retM (e2 modD (eV 3) (eV 1)))))
  (ret .nx))
  (seqM (setI (e2 modD (e2 addD (e2 mulA (e2 ixD (eV 0) (ret (.int (2)))) (ret (.int (48271)))) (ret (.int (11)))) (ret (.int (2147483647)))) (eV 0) (ret (.int (2))))
  (retM (e2 modD (e2 divD (e2 ixD (eV 0) (ret (.int (2)))) (ret (.int (7)))) (eV 1)))))))
noncomputable def F_law_drawn : Fun := defF 4 B_law_drawn
set_option maxHeartbeats 16000000 in
theorem ok_law_drawn (T : Txt K mg) (Df : Defs K) {f : Addr} {fd : FuncData} (F : FunD K "_law_drawn" "_law_drawn" (defArgs s_law_drawn) (defBody s_law_drawn) (defScope s_law_drawn) [] [] f fd) : FnOk P w K mg base (L2.CX P w) 1 f fd ["_law_state", "_law_many"] (spF K 2 F_law_drawn) := by
  refine okF (k := 0) F sc_law_drawn fun cdv A outer s H E Tb hr => ?_
  exact (s_cons (s_if (v_tcmp op_gt s_gt (v_ix ix_seq s_ix (v_var (pv 0)) v_int (fun _ _ => rfl)) v_int (nomark _)) (s_cons (s_set (ps_set (i := 2) sc_law_drawn.nd rfl (Or.inl rfl) (v_op op_mod s_mod (v_ix ix_seq s_ix (v_var (pv 0)) v_int (fun _ _ => rfl)) (v_var (pv 1)))))
  (s_cons (s_setI (ps_asg (v_op op_fdivW s_div (v_ix ix_seq s_ix (v_var (pv 0)) v_int (fun _ _ => rfl)) (v_var (pv 1))) (pg_sub (v_var (pv 0)) v_int set_list)))
  (s_one (s_ret (v_var (pv 2)))))) s_nil)
  (s_cons (s_setI (ps_asg (v_op opA_add s_add (v_ix ix_seq s_ix (v_var (pv 0)) v_int (fun _ _ => rfl)) v_int) (pg_sub (v_var (pv 0)) v_int set_list)))
  (s_cons (s_if (v_tcmp op_le s_le (v_ix ix_seq s_ix (v_var (pv 0)) v_int (fun _ _ => rfl)) (v_b s_len (pe_callB call_len rfl T.b_len (by decide +kernel) (a_cons (v_ix ix_seq s_ix (v_var (pv 0)) v_int (fun _ _ => rfl)) a_nil))) (nomark _)) (s_cons (s_set (ps_set (i := 3) sc_law_drawn.nd rfl (Or.inl rfl) (v_ix ix_seq s_ix (v_ix ix_seq s_ix (v_var (pv 0)) v_int (fun _ _ => rfl)) (v_op op_sub s_sub (v_ix ix_seq s_ix (v_var (pv 0)) v_int (fun _ _ => rfl)) v_int) (fun _ _ => rfl))))
  (s_cons (s_setI (ps_asg (v_if (v_tcmp op_ge s_ge (v_var (pv 3)) (v_op op_pow s_pow v_int v_int) (nomark _)) (v_op op_fdivW s_div (v_var (pv 3)) (v_var (pv 1))) v_int) (pg_sub (v_var (pv 0)) v_int set_list)))
  (s_one (s_ret (v_op op_mod s_mod (v_var (pv 3)) (v_var (pv 1))))))) s_nil)
  (s_cons (s_setI (ps_asg (v_op op_mod s_mod (v_op opA_add s_add (v_op opA_mul s_mul (v_ix ix_seq s_ix (v_var (pv 0)) v_int (fun _ _ => rfl)) v_int) v_int) v_int) (pg_sub (v_var (pv 0)) v_int set_list)))
  (s_one (s_ret (v_op op_mod s_mod (v_op op_fdivW s_div (v_ix ix_seq s_ix (v_var (pv 0)) v_int (fun _ _ => rfl)) v_int) (v_var (pv 1)))))))))
theorem fn_law_drawn (T : Txt K mg) (Df : Defs K) : Fn P w K mg base (L2.CX P w) 1 "_law_drawn" (spF K 2 F_law_drawn) [] := by
  obtain ⟨fd, F⟩ := Df.law_drawn
  exact .of F T.g_law_drawn (bnd0 F fun _ _ _ _ _ _ us hl => match us, hl with | [_, _], _ => rfl) (ok_law_drawn T Df F)
end
section
variable {P : Program} {w : World} {K : PySem.W.Frag} {mg : Str → Option Value} {base : Heap}
theorem sc_law_is_odd : FnScope ["_law_word", "_law_found"] ["_law_word"] (defScope s_law_is_odd) := ⟨rfl, rfl, rfl, by decide +kernel, rfl, by decide +kernel, by decide +kernel⟩
noncomputable def B_law_is_odd : M Fl :=
  (seqM (setM (ret (.int (0))) (putS 1))
  (seqM (whM (bM (e2 gtD (eV 0) (ret (.int (0))))) (seqM (setM (e2 addD (eV 1) (e2 modD (eV 0) (ret (.int (2))))) (putS 1))
  (setM (e2 divD (eV 0) (ret (.int (2)))) (putS 0))) 100000)
  (retM (e2 modD (eV 1) (ret (.int (2)))))))
noncomputable def F_law_is_odd : Fun := defF 2 B_law_is_odd
set_option maxHeartbeats 16000000 in
theorem ok_law_is_odd (T : Txt K mg) (Df : Defs K) {f : Addr} {fd : FuncData} (F : FunD K "_law_is_odd" "_law_is_odd" (defArgs s_law_is_odd) (defBody s_law_is_odd) (defScope s_law_is_odd) [] [] f fd) : FnOk P w K mg base (L2.CX P w) 1 f fd ["_law_word"] (spF K 1 F_law_is_odd) := by
  refine okF (k := 0) F sc_law_is_odd fun cdv A outer s H E Tb hr => ?_
  exact (s_cons (s_set (ps_set (i := 1) sc_law_is_odd.nd rfl (Or.inl rfl) v_int))
  (s_cons (s_while 100000 (ps_while (passes_of rfl) (v_tcmp op_gt s_gt (v_var (pv 0)) v_int (nomark _)) (s_cons (s_set (ps_set (i := 1) sc_law_is_odd.nd rfl (Or.inl rfl) (v_op opA_add s_add (v_var (pv 1)) (v_op op_mod s_mod (v_var (pv 0)) v_int))))
  (s_one (s_set (ps_set (i := 0) sc_law_is_odd.nd rfl (Or.inl rfl) (v_op op_fdivW s_div (v_var (pv 0)) v_int)))))))
  (s_one (s_ret (v_op op_mod s_mod (v_var (pv 1)) v_int)))))
theorem fn_law_is_odd (T : Txt K mg) (Df : Defs K) : Fn P w K mg base (L2.CX P w) 1 "_law_is_odd" (spF K 1 F_law_is_odd) [] := by
  obtain ⟨fd, F⟩ := Df.law_is_odd
  exact .of F T.g_law_is_odd (bnd0 F fun _ _ _ _ _ _ us hl => match us, hl with | [_], _ => rfl) (ok_law_is_odd T Df F)
end
section
variable {P : Program} {w : World} {K : PySem.W.Frag} {mg : Str → Option Value} {base : Heap}
theorem sc_law_block : FnScope ["_law_words", "_law_columns", "_law_marks", "_law_step", "_law_k", "_law_word"] ["_law_words"] (defScope s_law_block) := ⟨rfl, rfl, rfl, by decide +kernel, rfl, by decide +kernel, by decide +kernel⟩
noncomputable def B_law_block : M Fl :=
  (seqM (setM (tupM (consM (ret (.int (0))) (consM (ret (.int (0))) (consM (ret (.int (1))) nilM)))) (tupG 3 (consG (putS 1) (consG (putS 2) (consG (putS 3) nilG)))))
  (seqM (forM (rng1 (consM (ret (.int (16))) nilM)) (putS 4) (seqM (setM (e2 addD (eV 1) (e2 mulA (eV 3) (e2 modD (cN sumA (consM (dropM (lcP (.one 5) [5] (seqI (eV 0)) (ret true) (e2 modD (e2 divD (eV 5) (eV 3)) (ret (.int (2)))))) nilM)) (ret (.int (2)))))) (putS 1))
  (setM (e2 mulA (eV 3) (ret (.int (2)))) (putS 3))))
  (seqM (setM (ret (.int (1))) (putS 3))
  (seqM (forM (rng1 (consM (ret (.int (14))) nilM)) (putS 4) (seqM (setM (e2 addD (eV 2) (e2 mulA (eV 3) (ifM (bM (e2 ltD (eV 4) (cN lenD (consM (eV 0) nilM)))) (callM F_law_is_odd [] (consM (e2 ixD (eV 0) (eV 4)) nilM)) (ret (.int (0)))))) (putS 2))
  (setM (e2 mulA (eV 3) (ret (.int (2)))) (putS 3))))
  (retM (e2 addD (cN tupleD (consM (eV 0) nilM)) (tupM (consM (eV 1) (consM (e2 addD (eV 2) (e2 mulA (eV 3) (callM F_law_is_odd [] (consM (eV 1) nilM)))) nilM)))))))))
noncomputable def F_law_block : Fun := defF 6 B_law_block
set_option maxHeartbeats 16000000 in
theorem ok_law_block (T : Txt K mg) (Df : Defs K) {f : Addr} {fd : FuncData} (F : FunD K "_law_block" "_law_block" (defArgs s_law_block) (defBody s_law_block) (defScope s_law_block) [] [] f fd) : FnOk P w K mg base (L2.CX P w) 2 f fd ["_law_words"] (spF K 1 F_law_block) := by
  refine okF (k := 1) F sc_law_block fun cdv A outer s H E Tb hr => ?_
  exact (s_cons (s_asg (ps_asg (v_tup (a_cons v_int (a_cons v_int (a_cons v_int a_nil)))) (g_tup (pg_tup rfl (gs_cons (pgs_cons (g_name (pg_name (i := 1) sc_law_block.nd rfl (Or.inl rfl))) (gs_cons (pgs_cons (g_name (pg_name (i := 2) sc_law_block.nd rfl (Or.inl rfl))) (gs_cons (pgs_cons (g_name (pg_name (i := 3) sc_law_block.nd rfl (Or.inr rfl))) gs_nil))))))))))
  (s_cons (s_for (ps_for (passes_of rfl) rfl (i_rng1 (pi_range1 rfl T.b_range (a_cons v_int a_nil))) (g_name (pg_name (i := 4) sc_law_block.nd rfl (Or.inl rfl))) (s_cons (s_set (ps_set (i := 1) sc_law_block.nd rfl (Or.inl rfl) (v_op opA_add s_add (v_var (pv 1)) (v_op opA_mul s_mul (v_var (pv 3)) (v_op op_mod s_mod (v_b s_sumA (pe_callB (cr_sumA rfl) rfl T.b_sum (by decide +kernel) (a_cons (v_drop (v_lc (by decide) (pe_lc (own := [("_law_word", 5)]) (g := gName 5) rfl sc_law_block.nd  (i_seq (pi_seq (v_var (pv 0)))) (blkOk_by (own := [("_law_word", 5)]) (N := ["_law_words", "_law_columns", "_law_marks", "_law_step", "_law_k", "_law_word"]) (sc := defScope s_law_block) (by decide +kernel)) (fun _ _ _ _ _ => (pg_name (i := 5) sc_law_block.nd rfl (Or.inl rfl))) (fun _ _ _ _ _ => ts_nil) (fun _ _ _ _ _ => (v_op op_mod s_mod (v_op op_fdivW s_div (v_var (pv 5)) (v_var (pv 3))) v_int))))) a_nil))) v_int)))))
  (s_one (s_set (ps_set (i := 3) sc_law_block.nd rfl (Or.inr rfl) (v_op opA_mul s_mul (v_var (pv 3)) v_int)))))))
  (s_cons (s_set (ps_set (i := 3) sc_law_block.nd rfl (Or.inr rfl) v_int))
  (s_cons (s_for (ps_for (passes_of rfl) rfl (i_rng1 (pi_range1 rfl T.b_range (a_cons v_int a_nil))) (g_name (pg_name (i := 4) sc_law_block.nd rfl (Or.inl rfl))) (s_cons (s_set (ps_set (i := 2) sc_law_block.nd rfl (Or.inl rfl) (v_op opA_add s_add (v_var (pv 2)) (v_op opA_mul s_mul (v_var (pv 3)) (v_if (v_tcmp op_lt s_lt (v_var (pv 4)) (v_b s_len (pe_callB call_len rfl T.b_len (by decide +kernel) (a_cons (v_var (pv 0)) a_nil))) (nomark _)) (v_call (fun _ _ => .nil) (len_app (len_cons len_nil) rfl) (pe_fS (fn_law_is_odd T Df) hr (by decide) (fun σ => passAt (takes_of rfl rfl rfl rfl) σ) (a_cons (v_ix ix_seq s_ix (v_var (pv 0)) (v_var (pv 4)) (fun _ _ => rfl)) a_nil))) v_int)))))
  (s_one (s_set (ps_set (i := 3) sc_law_block.nd rfl (Or.inr rfl) (v_op opA_mul s_mul (v_var (pv 3)) v_int)))))))
  (s_one (s_ret (v_op opA_add s_add (v_b s_tuple (pe_callTy call_tuple_of rfl T.b_tuple (by decide +kernel) (a_cons (v_var (pv 0)) a_nil))) (v_tup (a_cons (v_var (pv 1)) (a_cons (v_op opA_add s_add (v_var (pv 2)) (v_op opA_mul s_mul (v_var (pv 3)) (v_call (fun _ _ => .nil) (len_app (len_cons len_nil) rfl) (pe_fS (fn_law_is_odd T Df) hr (by decide) (fun σ => passAt (takes_of rfl rfl rfl rfl) σ) (a_cons (v_var (pv 1)) a_nil))))) a_nil))))))))))
theorem fn_law_block (T : Txt K mg) (Df : Defs K) : Fn P w K mg base (L2.CX P w) 2 "_law_block" (spF K 1 F_law_block) [] := by
  obtain ⟨fd, F⟩ := Df.law_block
  exact .of F T.g_law_block (bnd0 F fun _ _ _ _ _ _ us hl => match us, hl with | [_], _ => rfl) (ok_law_block T Df F)
end
section
variable {P : Program} {w : World} {K : PySem.W.Frag} {mg : Str → Option Value} {base : Heap}
theorem sc_law_flipped : FnScope ["_law_block_here", "_law_word", "_law_bit", "_law_step", "_law_k", "_law_other"] ["_law_block_here", "_law_word", "_law_bit"] (defScope s_law_flipped) := ⟨rfl, rfl, rfl, by decide +kernel, rfl, by decide +kernel, by decide +kernel⟩
noncomputable def B_law_flipped : M Fl :=
  (seqM (setM (ret (.int (1))) (putS 3))
  (seqM (forM (rng1 (consM (eV 2) nilM)) (putS 4) (setM (e2 mulA (eV 3) (ret (.int (2)))) (putS 3)))
  (seqM (setM (e2 addD (e2 ixD (eV 0) (eV 1)) (e2 ixD (frzM (lstM (consM (eV 3) (consM (e2 subD (ret (.int (0))) (eV 3)) nilM)))) (e2 modD (e2 divD (e2 ixD (eV 0) (eV 1)) (eV 3)) (ret (.int (2)))))) (putS 5))
  (retM (e2 addD (e2 addD (slM (eV 0) (prt none) (prt (some (eV 1)))) (tupM (consM (eV 5) nilM))) (slM (eV 0) (prt (some (e2 addD (eV 1) (ret (.int (1)))))) (prt none)))))))
noncomputable def F_law_flipped : Fun := defF 6 B_law_flipped
set_option maxHeartbeats 16000000 in
theorem ok_law_flipped (T : Txt K mg) (Df : Defs K) {f : Addr} {fd : FuncData} (F : FunD K "_law_flipped" "_law_flipped" (defArgs s_law_flipped) (defBody s_law_flipped) (defScope s_law_flipped) [] [] f fd) : FnOk P w K mg base (L2.CX P w) 1 f fd ["_law_block_here", "_law_word", "_law_bit"] (spF K 3 F_law_flipped) := by
  refine okF (k := 0) F sc_law_flipped fun cdv A outer s H E Tb hr => ?_
  exact (s_cons (s_set (ps_set (i := 3) sc_law_flipped.nd rfl (Or.inl rfl) v_int))
  (s_cons (s_for (ps_for (passes_of rfl) rfl (i_rng1 (pi_range1 rfl T.b_range (a_cons (v_var (pv 2)) a_nil))) (g_name (pg_name (i := 4) sc_law_flipped.nd rfl (Or.inl rfl))) (s_one (s_set (ps_set (i := 3) sc_law_flipped.nd rfl (Or.inl rfl) (v_op opA_mul s_mul (v_var (pv 3)) v_int))))))
  (s_cons (s_set (ps_set (i := 5) sc_law_flipped.nd rfl (Or.inl rfl) (v_op opA_add s_add (v_ix ix_seq s_ix (v_var (pv 0)) (v_var (pv 1)) (fun _ _ => rfl)) (v_ix ix_seq s_ix (v_frz (o_lst (a_cons (v_var (pv 3)) (a_cons (v_op op_sub s_sub v_int (v_var (pv 3))) a_nil)))) (v_op op_mod s_mod (v_op op_fdivW s_div (v_ix ix_seq s_ix (v_var (pv 0)) (v_var (pv 1)) (fun _ _ => rfl)) (v_var (pv 3))) v_int) (fun _ _ => rfl)))))
  (s_one (s_ret (v_op opA_add s_add (v_op opA_add s_add (v_sl rfl (v_var (pv 0)) p_none (p_some (v_var (pv 1)))) (v_tup (a_cons (v_var (pv 5)) a_nil))) (v_sl rfl (v_var (pv 0)) (p_some (v_op opA_add s_add (v_var (pv 1)) v_int)) p_none)))))))
theorem fn_law_flipped (T : Txt K mg) (Df : Defs K) : Fn P w K mg base (L2.CX P w) 1 "_law_flipped" (spF K 3 F_law_flipped) [] := by
  obtain ⟨fd, F⟩ := Df.law_flipped
  exact .of F T.g_law_flipped (bnd0 F fun _ _ _ _ _ _ us hl => match us, hl with | [_, _, _], _ => rfl) (ok_law_flipped T Df F)
end
section
variable {P : Program} {w : World} {K : PySem.W.Frag} {mg : Str → Option Value} {base : Heap}
theorem sc_law_due : FnScope ["_law_block_here", "_law_words", "_law_word", "_law_bit", "_law_other"] ["_law_block_here"] (defScope s_law_due) := ⟨rfl, rfl, rfl, by decide +kernel, rfl, by decide +kernel, by decide +kernel⟩
noncomputable def B_law_due : M Fl :=
  (seqM (setM (slM (eV 0) (prt none) (prt (some (negM (ret (.int (2))))))) (putS 1))
  (seqM (ifS (bM (e2 eqD (callM F_law_block [] (consM (eV 1) nilM)) (eV 0)))
  (retM (tupM (consM (eV 1) (consM (ret .non) nilM))))
  (ret .nx))
  (seqM (forM (rng1 (consM (cN lenD (consM (eV 0) nilM)) nilM)) (putS 2) (forM (rng1 (consM (ret (.int (16))) nilM)) (putS 3) (seqM (setM (callM F_law_flipped [] (consM (eV 0) (consM (eV 2) (consM (eV 3) nilM)))) (putS 4))
  (ifS (bM (e2 eqD (callM F_law_block [] (consM (slM (eV 4) (prt none) (prt (some (negM (ret (.int (2))))))) nilM)) (eV 4)))
  (retM (tupM (consM (slM (eV 4) (prt none) (prt (some (negM (ret (.int (2))))))) (consM (tupM (consM (eV 2) (consM (eV 3) nilM))) nilM))))
  (ret .nx)))))
  (retM (ret (.str "NoMend"))))))
noncomputable def F_law_due : Fun := (finF (defF 5 B_law_due))
set_option maxHeartbeats 16000000 in
theorem ok_law_due (T : Txt K mg) (Df : Defs K) {f : Addr} {fd : FuncData} (F : FunD K "_law_due" "_law_due" (defArgs s_law_due) (defBody s_law_due) (defScope s_law_due) [] [] f fd) : FnOk P w K mg base (L2.CX P w) 3 f fd ["_law_block_here"] (spF K 1 F_law_due) := by
  refine FnOk.imp (okF (k := 2) F sc_law_due fun cdv A outer s H E Tb hr => ?_) imFin
  exact (s_cons (s_set (ps_set (i := 1) sc_law_due.nd rfl (Or.inl rfl) (v_sl rfl (v_var (pv 0)) p_none (p_some (v_neg v_int)))))
  (s_cons (s_if (v_tcmp (opA_eq hr.units) s_eq (v_call (fun _ _ => .nil) (len_app (len_cons len_nil) rfl) (pe_fS (fn_law_block T Df) hr (by decide) (fun σ => passAt (takes_of rfl rfl rfl rfl) σ) (a_cons (v_var (pv 1)) a_nil))) (v_var (pv 0)) (nomark _)) (s_one (s_ret (v_tup (a_cons (v_var (pv 1)) (a_cons v_non a_nil))))) s_nil)
  (s_cons (s_for (ps_for (passes_of rfl) rfl (i_rng1 (pi_range1 rfl T.b_range (a_cons (v_b s_len (pe_callB call_len rfl T.b_len (by decide +kernel) (a_cons (v_var (pv 0)) a_nil))) a_nil))) (g_name (pg_name (i := 2) sc_law_due.nd rfl (Or.inl rfl))) (s_one (s_for (ps_for (passes_of rfl) rfl (i_rng1 (pi_range1 rfl T.b_range (a_cons v_int a_nil))) (g_name (pg_name (i := 3) sc_law_due.nd rfl (Or.inl rfl))) (s_cons (s_set (ps_set (i := 4) sc_law_due.nd rfl (Or.inl rfl) (v_call (fun _ _ => .nil) (len_app (len_cons (len_cons (len_cons len_nil))) rfl) (pe_fS (fn_law_flipped T Df) hr (by decide) (fun σ => passAt (takes_of rfl rfl rfl rfl) σ) (a_cons (v_var (pv 0)) (a_cons (v_var (pv 2)) (a_cons (v_var (pv 3)) a_nil)))))))
  (s_one (s_if (v_tcmp (opA_eq hr.units) s_eq (v_call (fun _ _ => .nil) (len_app (len_cons len_nil) rfl) (pe_fS (fn_law_block T Df) hr (by decide) (fun σ => passAt (takes_of rfl rfl rfl rfl) σ) (a_cons (v_sl rfl (v_var (pv 4)) p_none (p_some (v_neg v_int))) a_nil))) (v_var (pv 4)) (nomark _)) (s_one (s_ret (v_tup (a_cons (v_sl rfl (v_var (pv 4)) p_none (p_some (v_neg v_int))) (a_cons (v_tup (a_cons (v_var (pv 2)) (a_cons (v_var (pv 3)) a_nil))) a_nil))))) s_nil))))))))
  (s_one (s_ret v_str)))))
theorem fn_law_due (T : Txt K mg) (Df : Defs K) : Fn P w K mg base (L2.CX P w) 3 "_law_due" (spF K 1 F_law_due) [] := by
  obtain ⟨fd, F⟩ := Df.law_due
  exact .of F T.g_law_due (bnd0 F fun _ _ _ _ _ _ us hl => match us, hl with | [_], _ => rfl) (ok_law_due T Df F)
end
end Lk26
set_option autoImplicit false
set_option Elab.async false
set_option linter.all false
set_option maxRecDepth 100000
set_option maxHeartbeats 4000000
namespace Lk26
open PySem PySem.Spec PyProof.Rows L2 Bm
local macro_rules
  | `(tactic| array_get_dec) => `(tactic| first | refine ⟨_, rfl, ?_⟩ | refine ⟨_, _, rfl, rfl, ?_⟩ | refine ⟨rfl, ?_⟩ | refine ⟨_, _, rfl, ?_⟩ | refine ⟨⟨_, rfl⟩, ?_⟩ | refine iteDT (by decide) ?_ | refine iteDF (by decide) ?_ | refine iteBT (by decide) ?_ | refine iteBF (by decide) ?_ | refine ⟨_, _, rfl, rfl, ⟨by decide, by decide⟩, ?_⟩)
local macro_rules
  | `(tactic| and_intros) => `(tactic| (repeat (array_get_dec)))
section
theorem sc_law_kind : FnScope ["_law_work", "e", "_law_kinds", "_law_words", "_law_at"] ["_law_work"] (defScope s_law_kind) := ⟨rfl, rfl, rfl, by decide +kernel, rfl, by decide +kernel, by decide +kernel⟩
set_option maxHeartbeats 8000000 in
theorem kind_gives {X : Cx} (T : Txt X.K X.mg) {q : Str} {g : Addr} {cdg : Value} : LamX.GivesTo X ["_law_work", "e", "_law_kinds", "_law_words", "_law_at"] "_law_kind" (defScope s_law_kind) g cdg (defBody s_law_kind) "_law_work" q (TKind X.K) := by
  intro f c' s H Q tl act hc h
  refine ⟨_, pss_one (ps_try_as (i := 1) (X := (cxOf C8.CX0 X.prog X.w X.K X.mg X.base ["_law_work", "e", "_law_kinds", "_law_words", "_law_at"] "_law_kind" (defScope s_law_kind) g cdg X.A X.stack s H C8.E0).nox) (c := .ref (He.ga X.K "MillError"))
      (tb := fun W D σ H => ∃ Ech : XK, (∀ cls d σ' H', Ech cls d H' → σ'.length = 5 → W cls d σ' H') ∧ σ[0]? = some (some (.ref f)) ∧ H c' = some (LamX.CodeO c' q) ∧ tl Ech H D.rt)
      rfl rfl sc_law_kind.nd rfl rfl ⟨rfl, by decide, .inl T.c_MillError⟩ L2.takes0 (fun W pn xe tk _ => ?_)
      (fun a oe cls d pn hz hf => pss_cons (ps_set (i := 2) sc_law_kind.nd rfl (Or.inl rfl) (pe_lst (pa_cons (pe_callB (call_isX hz hf) rfl T.b_isinstance (by decide +kernel) (pa_cons (pv 1) (pa_cons (pe_glob (v := .ref (He.ga X.K "BadDeed")) rfl T.c_BadDeed rfl) pa_nil))) (pa_cons (pe_callB (call_isX hz hf) rfl T.b_isinstance (by decide +kernel) (pa_cons (pv 1) (pa_cons (pe_glob (v := .ref (He.ga X.K "BadReach")) rfl T.c_BadReach rfl) pa_nil))) (pa_cons (pe_callB (call_isX hz hf) rfl T.b_isinstance (by decide +kernel) (pa_cons (pv 1) (pa_cons (pe_glob (v := .ref (He.ga X.K "NoDeed")) rfl T.c_NoDeed rfl) pa_nil))) (pa_cons (pe_callB (call_isX hz hf) rfl T.b_isinstance (by decide +kernel) (pa_cons (pv 1) (pa_cons (pe_glob (v := .ref (He.ga X.K "BadCount")) rfl T.c_BadCount rfl) pa_nil))) pa_nil))))))
  (pss_cons (ps_set (i := 2) sc_law_kind.nd rfl (Or.inl rfl) (pe_op op_cat (pv 2) (pe_lst (pa_cons (pe_callB (call_isX hz hf) rfl T.b_isinstance (by decide +kernel) (pa_cons (pv 1) (pa_cons (pe_glob (v := .ref (He.ga X.K "NoMend")) rfl T.c_NoMend rfl) pa_nil))) (pa_cons (pe_callB (call_isX hz hf) rfl T.b_isinstance (by decide +kernel) (pa_cons (pv 1) (pa_cons (pe_glob (v := .ref (He.ga X.K "BadImage")) rfl T.c_BadImage rfl) pa_nil))) (pa_cons (pe_callB (call_isX hz hf) rfl T.b_isinstance (by decide +kernel) (pa_cons (pv 1) (pa_cons (pe_glob (v := .ref (He.ga X.K "BadGiven")) rfl T.c_BadGiven rfl) pa_nil))) pa_nil))))))
  (pss_cons (ps_set (i := 2) sc_law_kind.nd rfl (Or.inl rfl) (pe_op op_cat (pv 2) (pe_lst (pa_cons (pe_callB (call_isX hz hf) rfl T.b_isinstance (by decide +kernel) (pa_cons (pv 1) (pa_cons (pe_glob (v := .ref (He.ga X.K "BadList")) rfl T.c_BadList rfl) pa_nil))) (pa_cons (pe_callB (call_isX hz hf) rfl T.b_isinstance (by decide +kernel) (pa_cons (pv 1) (pa_cons (pe_glob (v := .ref (He.ga X.K "BadRow")) rfl T.c_BadRow rfl) pa_nil))) pa_nil)))))
  (pss_cons (ps_set (i := 3) sc_law_kind.nd rfl (Or.inl rfl) (pe_lst (pa_cons pe_str (pa_cons pe_str (pa_cons pe_str (pa_cons pe_str (pa_cons pe_str (pa_cons pe_str (pa_cons pe_str (pa_cons pe_str (pa_cons pe_str pa_nil)))))))))))
  (pss_cons (ps_if (PW.pt (pw_or (pt_cmpR op_ne (pe_bmK X.K (r := rCntF X.K) PySem.F.plainAttrs_list PySem.F.slot_list_count PySem.F.type_list_count mt_lcountF (pv 2) (pa_cons pe_bl pa_nil)) pe_int (nomark _)) (pw_or1 (pt_not (pt_val (pe_callB (call_isX hz hf) rfl T.b_isinstance (by decide +kernel) (pa_cons (pv 1) (pa_cons (pe_bltn (v := .ty "ValueError") rfl T.b_ValueError (by decide +kernel) rfl) pa_nil)))))))) (pss_one (ps_ret pe_str)) (pss_nil))
  (pss_cons (ps_set (i := 4) sc_law_kind.nd rfl (Or.inl rfl) (pe_bmK X.K (r := rIndex X.K) PySem.F.plainAttrs_list PySem.F.slot_list_index PySem.F.type_list_index mt_index (pv 2) (pa_cons pe_bl pa_nil)))
  (pss_cons (ps_if (pt_cmpR op_lt (pv 4) pe_int (nomark _)) (pss_one (ps_ret (pe_ix (r := rIxL X.K) ix_list (pv 3) (pv 4) (fun _ _ => rfl)))) (pss_nil))
  (pss_one (ps_ret (pe_ifExp (pt_cmpR op_lt (pv 4) pe_int (nomark _)) (pe_tup (pa_cons (pe_ix (r := rIxL X.K) ix_list (pv 3) (pv 4) (fun _ _ => rfl)) (pa_cons (pe_xfA hz hf (pv 1)) pa_nil))) (pe_tup (pa_cons (pe_ix (r := rIxL X.K) ix_list (pv 3) (pv 4) (fun _ _ => rfl)) (pa_cons (pe_xfA hz hf (pv 1)) (pa_cons (pe_xfA hz hf (pv 1)) pa_nil))))))))))))))), ?_⟩
  · refine ⟨fun pins s' σ H' D I h' => ?_⟩
    obtain ⟨Ech, hW, h1, h2, h3⟩ := h'
    exact (pss_one (ps_ret (act _ pn xe Ech _ _ (takes_len tk rfl) hW))).run pins s' σ H' D I ⟨h1, h2, h3⟩
  · refine ⟨KindE X.K Q, fun cls d σ' H' hk hl => ?_, rfl, hc, h⟩
    obtain ⟨a0, a1, a2, a3, a4, rfl⟩ : ∃ a0 a1 a2 a3 a4, σ' = [a0, a1, a2, a3, a4] := by
      match σ', hl with
      | [a0, a1, a2, a3, a4], _ => exact ⟨a0, a1, a2, a3, a4, rfl⟩
    obtain ⟨x, hx, rfl, hk⟩ := hk
    refine ⟨true, T.x.exm x hx, fun _ a na => ?_, fun z => by cases z⟩
    have hd : ∀ H'', Same H' H'' → (d = none ∨ ∃ dd fs, d = some dd ∧ H'' dd = some (.xd fs)) := by
      rcases hk with ⟨_, e, _⟩ | ⟨_, dd, fs, v, e, h1, _⟩ | ⟨_, dd, fs, v, u, e, h1, _⟩
      · exact fun _ _ => .inl e
      · exact fun H'' s1 => .inr ⟨dd, fs, e, s1 _ _ h1⟩
      · exact fun H'' s1 => .inr ⟨dd, fs, e, s1 _ _ h1⟩
    have X1 := T.x.exc x hx
    have r0 := Same.refl H'
    have I : ∀ (y : Str) (hy : y ∈ allX), PySem.W.kitOne X.K (.ref (He.ga X.K x)) (.ref (He.ga X.K y)) = some (decide (x = y)) := fun y hy => T.x.kit x hx y hy
    -- kinds = [..4]
    refine ⟨_, rfl, _, _, _, _, rfl, X1, hd _ r0, rfl, (fun u h => h), I "BadDeed" (by decide), _, rfl, _, _, _, _, rfl, X1, hd _ r0, rfl, (fun u h => h), I "BadReach" (by decide), _, rfl, _, _, _, _, rfl, X1, hd _ r0, rfl, (fun u h => h), I "NoDeed" (by decide), _, rfl, _, _, _, _, rfl, X1, hd _ r0, rfl, (fun u h => h), I "BadCount" (by decide), (show 4 ≤ sizeLine by decide), fun l1 n1 => ?_⟩
    have s1 : Same H' (upd H' l1 (.lst (kb x ["BadDeed", "BadReach", "NoDeed", "BadCount"]))) := Same.new n1
    have h1 : (upd H' l1 (.lst (kb x ["BadDeed", "BadReach", "NoDeed", "BadCount"]))) l1 = some (.lst (kb x ["BadDeed", "BadReach", "NoDeed", "BadCount"])) := upd_same
    show tSeq _ _ _ _ (upd H' l1 (.lst (kb x ["BadDeed", "BadReach", "NoDeed", "BadCount"])))
    generalize upd H' l1 (.lst (kb x ["BadDeed", "BadReach", "NoDeed", "BadCount"])) = H1 at s1 h1
    -- kinds = kinds + [..3]
    refine ⟨_, rfl, _, rfl, _, _, _, _, rfl, X1, hd _ s1, rfl, (fun u h => h), I "NoMend" (by decide), _, rfl, _, _, _, _, rfl, X1, hd _ s1, rfl, (fun u h => h), I "BadImage" (by decide), _, rfl, _, _, _, _, rfl, X1, hd _ s1, rfl, (fun u h => h), I "BadGiven" (by decide), (show 3 ≤ sizeLine by decide), fun l2 n2 => ?_⟩
    refine ⟨l1, l2, kb x ["BadDeed", "BadReach", "NoDeed", "BadCount"], kb x ["NoMend", "BadImage", "BadGiven"], rfl, rfl, (Same.new n2) _ _ h1, upd_same, (show 4 + 3 ≤ sizeLine by decide), fun l3 n3 => ?_⟩
    have s3 : Same H' (upd (upd H1 l2 (.lst (kb x ["NoMend", "BadImage", "BadGiven"]))) l3 (.lst (kb x ["BadDeed", "BadReach", "NoDeed", "BadCount", "NoMend", "BadImage", "BadGiven"]))) := (s1.trans (Same.new n2)).trans (Same.new n3)
    have h3 : (upd (upd H1 l2 (.lst (kb x ["NoMend", "BadImage", "BadGiven"]))) l3 (.lst (kb x ["BadDeed", "BadReach", "NoDeed", "BadCount", "NoMend", "BadImage", "BadGiven"]))) l3 = some (.lst (kb x ["BadDeed", "BadReach", "NoDeed", "BadCount", "NoMend", "BadImage", "BadGiven"])) := upd_same
    show tSeq _ _ _ _ (upd (upd H1 l2 (.lst (kb x ["NoMend", "BadImage", "BadGiven"]))) l3 (.lst (kb x ["BadDeed", "BadReach", "NoDeed", "BadCount", "NoMend", "BadImage", "BadGiven"])))
    generalize upd (upd H1 l2 (.lst (kb x ["NoMend", "BadImage", "BadGiven"]))) l3 (.lst (kb x ["BadDeed", "BadReach", "NoDeed", "BadCount", "NoMend", "BadImage", "BadGiven"])) = H3 at s3 h3
    -- kinds = kinds + [..2]
    refine ⟨_, rfl, _, rfl, _, _, _, _, rfl, X1, hd _ s3, rfl, (fun u h => h), I "BadList" (by decide), _, rfl, _, _, _, _, rfl, X1, hd _ s3, rfl, (fun u h => h), I "BadRow" (by decide), (show 2 ≤ sizeLine by decide), fun l4 n4 => ?_⟩
    refine ⟨l3, l4, kb x ["BadDeed", "BadReach", "NoDeed", "BadCount", "NoMend", "BadImage", "BadGiven"], kb x ["BadList", "BadRow"], rfl, rfl, (Same.new n4) _ _ h3, upd_same, (show 7 + 2 ≤ sizeLine by decide), fun l5 n5 => ?_⟩
    have s5 : Same H' (upd (upd H3 l4 (.lst (kb x ["BadList", "BadRow"]))) l5 (.lst (kindsL x))) := (s3.trans (Same.new n4)).trans (Same.new n5)
    have h5 : (upd (upd H3 l4 (.lst (kb x ["BadList", "BadRow"]))) l5 (.lst (kindsL x))) l5 = some (.lst (kindsL x)) := upd_same
    show tSeq _ _ _ _ (upd (upd H3 l4 (.lst (kb x ["BadList", "BadRow"]))) l5 (.lst (kindsL x)))
    generalize upd (upd H3 l4 (.lst (kb x ["BadList", "BadRow"]))) l5 (.lst (kindsL x)) = H5 at s5 h5
    -- words = [..9]
    refine ⟨(show 9 ≤ sizeLine by decide), fun l6 n6 => ?_⟩
    have s6 : Same H' (upd H5 l6 (.lst (allX.map V.str))) := s5.trans (Same.new n6)
    have h6 : (upd H5 l6 (.lst (allX.map V.str))) l6 = some (.lst (allX.map V.str)) := upd_same
    have h5' : (upd H5 l6 (.lst (allX.map V.str))) l5 = some (.lst (kindsL x)) := (Same.new n6) _ _ h5
    show tSeq _ _ _ _ (upd H5 l6 (.lst (allX.map V.str)))
    generalize upd H5 l6 (.lst (allX.map V.str)) = H6 at s6 h6 h5'
    -- if kinds.count(True) != 1 or not isinstance(e, ValueError)
    refine ⟨_, rfl, .inl ⟨rfl, _, SqL.of h5'⟩, l5, _, _, rfl, rfl, SqL.of h5', rfl, kinds_flat x hx, rfl, _, rfl, iteNS (by rw [kinds_count x hx]; rfl) ?_⟩
    refine ⟨_, rfl, _, .ty "ValueError", _, _, rfl, X1, hd _ s6, rfl, (fun u h => h), T.x.kitV x hx, _, rfl, iteF ?_⟩
    -- at = kinds.index(True)
    obtain ⟨j, hj, hj1, hj2, hj3, hp, hn, hw⟩ := kinds_at x hx
    refine ⟨_, rfl, .inl ⟨rfl, _, SqL.of h5'⟩, l5, _, _, j, .bl true, rfl, rfl, SqL.of h5', rfl, kinds_flat x hx, hj1, rfl, (fun m z hm hz => by rw [hj3 m hm] at hz; cases hz; rfl), ?_⟩
    have hat : atI (allX.map V.str) (j : Int) = some (.str x) := atI_nat hj2
    refine ⟨_, rfl, _, _, rfl, rfl, _, rfl, ?_⟩
    rcases hk with ⟨hxp, _, q⟩ | ⟨hxn, dd, fs, v, rfl, hfs, hv, q⟩ | ⟨hxr, dd, fs, v, u, rfl, hfs, hv, hu, q⟩
    · have h5 := hp hxp
      refine iteDT (by omega) ⟨_, rfl, _, rfl, l6, _, _, _, rfl, rfl, SqL.of h6, hat, q _ s6⟩
    · have h5 := hn hxn
      refine iteDF (by omega) ⟨_, rfl, _, _, rfl, rfl, _, rfl, iteDT (by omega) ?_⟩
      obtain ⟨_, _, hno, hX⟩ := T.x.num x hxn
      refine ⟨_, rfl, _, rfl, l6, _, _, _, rfl, rfl, SqL.of h6, hat, _, rfl, rfl, _, dd, fs, v, rfl, hX, hno, rfl, s6 _ _ hfs, hv, (show 2 ≤ sizeLine by decide), fun p np => ?_⟩
      exact q p _ (s6.free np) (s6.trans (Same.new np)) upd_same
    · have h5 := hw hxr
      subst hxr
      refine iteDF (by omega) ⟨_, rfl, _, _, rfl, rfl, _, rfl, iteDF (by omega) ?_⟩
      refine ⟨_, rfl, _, rfl, l6, _, _, _, rfl, rfl, SqL.of h6, hat, _, rfl, rfl, _, dd, fs, v, rfl, T.x.rowX, T.x.rowR, rfl, s6 _ _ hfs, hv, _, rfl, rfl, _, dd, fs, u, rfl, T.x.rowX, T.x.rowW, rfl, s6 _ _ hfs, hu, (show 3 ≤ sizeLine by decide), fun p np => ?_⟩
      exact q p _ (s6.free np) (s6.trans (Same.new np)) upd_same
end
end Lk26
set_option Elab.async false
set_option linter.all false
set_option maxRecDepth 100000
set_option maxHeartbeats 4000000
set_option autoImplicit false
namespace LamK
open PySem PySem.Spec PyProof.Rows L2 LamX Fv
section
variable {X : Cx}
def Sees (X : Cx) (elt : Expr) (scope : Scope) (vs : List Nat) (σ0 : L2.St) (te : TE) : Prop :=
  ∀ (pins : List (Addr × Obj)) (s0 : Shared) (H0 : Hp) (C : Addr) (cl : List (Str × Addr)) (fp : List Addr), Inv X pins σ0 H0 s0 → (∀ b ∈ fp, ∀ x c, X.env.cells.lookup x = some c → c ≠ b) → PE (X.blk s0 H0 scope (compEnvC scope cl C X.env) fp) elt (fun σ2 H Q => wipe σ2 vs = wipe σ0 vs ∧ te σ2 H Q)
/-- one turn, in the block; behind it the count goes down -/
theorem seen_turn {elt tg : Expr} {ifs : List Expr} {vs : List Nat} {g : TG} {tt : TT} {te : TE} {J : It} {fp : List Addr} {it D : Addr} {tn : Nat → Heap → Prop} {W : Nat → Nat → Hp → Prop} {σ : L2.St} {Y : Cx} {E : Value → Shared → Prop} (yE : ∀ v s, Y.xe v s → E v s) (hc : Y.calm = true) (T : Turn Y.prog Y.w Y.K tg J fp it tn)
    (pg : PG Y tg g) (pt : PTs Y ifs tt) (pe : PE Y elt (fun σ2 H Q => wipe σ2 vs = wipe σ vs ∧ te σ2 H Q)) (fpx : ∀ {σ' : L2.St} {H' : Hp} {s' : Shared}, Inv Y [] σ' H' s' → (∀ b ∈ fp, H' b = none) → ∀ b ∈ fp, FpOk Y [] H' b)
    {i n : Nat} {H5 : Hp} {s5 : Shared} (I5 : Inv Y [] (wipe σ vs) H5 s5) (st5 : tn i s5.heap) (n5 : ∀ b ∈ fp, H5 b = none) (go : J.go i H5)
    (step : ∃ Nx : Hp → Prop, (∀ H', Nx H' → ∃ m', m' < n ∧ W (i + 1) m' H') ∧ ∀ x H', J.yld i H5 x H' → g x (wipe σ vs) H' fun σ2 H2 => wipe σ2 vs = wipe σ vs ∧ tt σ2 H2 fun b H3 => if b = true then te σ2 H3 fun y H4 => ∃ acc, H4 D = some (.lst acc) ∧ acc.length < sizeLine ∧ Nx (upd H4 D (.lst (acc ++ [y]))) else Nx H3) :
    wpAny (model Y.prog Y.w) Y.A (pyNext (.ref it)) (fun r s₁ => ∃ u, r = some u ∧ wpAny (model Y.prog Y.w) Y.A (letOwnedTupleGo tg (.ref it) u) (fun _ s₁' => wpAny (model Y.prog Y.w) Y.A (assign tg Y.env u) (fun _ s₂ =>
      wpAny (model Y.prog Y.w) Y.A (forIn ifs true fun c r => if r = true then do let ok ← isTrue c Y.env (eval c Y.env); pure (ForInStep.yield ok) else pure (ForInStep.yield r)) (fun ok s₃ =>
        if ok = true then wpAny (model Y.prog Y.w) Y.A (eval elt Y.env) (fun x s₄ => wpAny (model Y.prog Y.w) Y.A (call (.builtin "list.append") [.ref D, x]) (fun _ s₅ => ∃ m, m < n ∧ ∃ i H', Inv Y [] (wipe σ vs) H' s₅ ∧ tn i s₅.heap ∧ (∀ b ∈ fp, H' b = none) ∧ W i m H') E s₄) E s₃
        else ∃ m, m < n ∧ ∃ i H', Inv Y [] (wipe σ vs) H' s₃ ∧ tn i s₃.heap ∧ (∀ b ∈ fp, H' b = none) ∧ W i m H') E s₂) E s₁') E s₁) E s5 := by
  obtain ⟨Nx, hNx, step⟩ := step
  refine wpAny_mono (T.item Y rfl rfl rfl hc i [] s5 _ H5 E I5 (fpx I5 n5) st5 go) (fun r s6 ⟨u, hr, h6⟩ => ⟨u, hr, ?_⟩) fun _ _ z => z
  refine thn h6 fun _ s7 ⟨x, H7, I7, r7, y7, st7, n7⟩ => ?_
  have P7 := I7.pinned (fpx I7 n7) (T.obj _ _ st7)
  refine wpAny_mono (pg.run _ s7 _ H7 x u _ P7 r7 (step x H7 y7)) (fun _ s8 ⟨σ8, H8, I8, w8, q8⟩ => ?_) yE
  -- whatever came, the block stands as ahead of the turn
  have back : ∀ {s' : Shared} {H' : Hp}, Inv Y ([] ++ pinsAt fp s7.heap) σ8 H' s' → Nx H' → ∃ m, m < n ∧ ∃ i H', Inv Y [] (wipe σ vs) H' s' ∧ tn i s'.heap ∧ (∀ b ∈ fp, H' b = none) ∧ W i m H' := fun {s' H'} I' nx => by
    obtain ⟨m', hm, w'⟩ := hNx H' nx
    have held : ∀ b ∈ fp, ∀ o, s7.heap.get? b = some o → s'.heap.get? b = some o ∧ H' b = none := fun b hb o e => by
      have := I'.pin (b, o) (List.mem_append_right _ (List.mem_append_right _ (mem_pinsAt hb e)))
      exact ⟨this.1, this.2.1⟩
    refine ⟨m', hm, i + 1, H', I'.unpinned.weak (by rw [← w8, wipe_length]) (fun k v e => (wipe_some (w8 ▸ e)).1), T.keep _ _ _ st7 fun b hb o e => (held b hb o e).1, fun b hb => ?_, w'⟩
    obtain ⟨o, e, _⟩ := T.obj _ _ st7 b hb
    exact (held b hb o e).2
  refine wpAny_mono (pt.run _ s8 σ8 H8 _ I8 q8) (fun b s9 ⟨H9, I9, q9⟩ => ?_) yE
  cases b with
  | false =>
    simp only [Bool.false_eq_true, if_false] at q9 ⊢
    exact back I9 q9
  | true =>
    simp only [if_true] at q9 ⊢
    refine wpAny_mono (pe.run _ s9 σ8 H9 _ I9 ⟨w8, q9⟩) (fun z s10 ⟨yv, H10, I10, r10, acc, hD, hz, nx⟩ => ?_) yE
    exact app_ok I10 hD hz r10 fun s11 I11 => back I11 nx
theorem pe_seen {elt tg iter : Expr} {ifs : List Expr} {scope : Scope} {own : List (Str × Nat)} {pos : Pos} {wi : TI} {g : TG} {tt : TT} {te : L2.St → TE} (hc : X.calm = true) (hN : X.N.Nodup) (hi : PI X tg iter wi) (ok : BlkOk X.N X.env.scope scope own)
    (hg : ∀ (s : Shared) (H : Hp) (C : Addr) (cl : List (Str × Addr)) (fp : List Addr), PG (X.blk s H scope (compEnvC scope cl C X.env) fp) tg g) (ht : ∀ (s : Shared) (H : Hp) (C : Addr) (cl : List (Str × Addr)) (fp : List Addr), PTs (X.blk s H scope (compEnvC scope cl C X.env) fp) ifs tt)
    (he : ∀ σ0, Sees X elt scope (own.map (·.2)) σ0 (te σ0)) (hs : ∀ x, foldedSetIterable iter X.env x = pure x := by intro _; rfl) :
    PE X (.ListComp elt [⟨tg, iter, ifs, 0⟩] scope pos) (fun σ H Q => tLc wi g tt (te σ) (own.map (·.2)) σ H Q) := by
  refine ⟨fun pins s σ H Q I h => ?_⟩
  rw [eval_ListComp]
  have has : ∀ y ∈ scope.names, y.2 = .free → ∃ c, X.env.cells.lookup y.1 = some c := fun y hy e => (ok.free y hy e).elim (fun k => I.ok.has _ (.inl k)) fun k => I.ok.has _ (.inr k)
  refine wpAny_comprehension_free (use := none) rfl hs (closure_ok has) ok.kind (fun y hy e => (ok.uniq y hy).trans (by rw [e])) ?_
  refine thn (hi.run pins s σ H _ I h) fun xv s1 hx => thn hx fun itv s2 ⟨it, fp, tn, J, H2, e2, I2, T, st2, f2, q⟩ => ?_
  subst e2
  refine wpAny_newObj_type (newEnv_comp ?_) (by show 0 ≤ sizeLine; decide)
  have nD : H2 s2.heap.objs.size = none := I2.hok.fresh (Nat.le_refl _)
  obtain ⟨W, ⟨m0, w0⟩, turn⟩ := q _ nD
  generalize hD : s2.heap.objs.size = D at nD w0 turn ⊢
  obtain ⟨s3, e3⟩ : ∃ s3 : Shared, s3 = { s2 with heap := s2.heap.push { cls := .type "list", data := .seq ([] : List Value).toArray } } := ⟨_, rfl⟩
  have up3 : ∀ b o, s2.heap.get? b = some o → s3.heap.get? b = some o := fun b o e => by rw [e3]; exact Heap.get?_push_of_some _ e
  have z3 : s2.heap.objs.size < s3.heap.objs.size := by rw [e3]; exact Heap.lt_size (Heap.get?_push_size s2.heap rfl)
  have I3 : Inv X pins σ (upd H2 D (.lst [])) s3 := by
    rw [e3]
    exact I2.laid (t' := s2.toks) (fun b o e => Heap.get?_push_of_some _ e) (Nat.le_of_eq hD) ⟨Nat.zero_le _, [], 0, .nil, by rw [← hD]; exact Heap.get?_push_size _ rfl⟩
  obtain ⟨H3, eH3⟩ : ∃ H3, H3 = upd H2 D (.lst []) := ⟨_, rfl⟩
  rw [← eH3] at I3 w0
  have f3 : ∀ b ∈ fp, FpOk X pins H3 b ∧ b < s3.heap.objs.size := fun b hb => by
    obtain ⟨o, e, _⟩ := T.obj _ _ st2 b hb
    have lt := Heap.lt_size e
    refine ⟨⟨?_, (f2 b hb).2⟩, Nat.lt_trans lt z3⟩
    rw [eH3, upd_ne (by rw [← hD]; exact Nat.ne_of_lt lt)]
    exact (f2 b hb).1
  have st3 : tn 0 s3.heap := T.keep _ _ _ st2 fun b _ o e => up3 b o e
  obtain ⟨ce, ece⟩ : ∃ ce, ce = compEnvC scope (cellsFrom (s3.heap.objs.size + 1) scope.names (cloFrom X.env.cells scope.names [])) s3.heap.objs.size X.env := ⟨_, rfl⟩
  obtain ⟨s4, e4⟩ : ∃ s4 : Shared, s4 = { s3 with heap := pushCells (s3.heap.push { cls := .type "dict", data := .dict #[] }) scope.names } := ⟨_, rfl⟩
  have I4 := block_start I3 ok hN f3
  have pg := hg s3 H3 s3.heap.objs.size (cellsFrom (s3.heap.objs.size + 1) scope.names (cloFrom X.env.cells scope.names [])) fp
  have pt := ht s3 H3 s3.heap.objs.size (cellsFrom (s3.heap.objs.size + 1) scope.names (cloFrom X.env.cells scope.names [])) fp
  have pe := he σ pins s3 H3 s3.heap.objs.size (cellsFrom (s3.heap.objs.size + 1) scope.names (cloFrom X.env.cells scope.names [])) fp I3 (fun b hb => (f3 b hb).1.2.2.2.2.1)
  rw [← ece, ← e4] at I4
  rw [← ece] at pg pt pe
  have lc : ce.locals = s3.heap.objs.size := by rw [ece]; rfl
  have st4 : tn 0 s4.heap := T.keep _ _ _ st3 fun b _ o e => by rw [e4]; exact pushCells_keeps _ _ _ _ (Heap.get?_push_of_some _ e)
  have fpx : ∀ {σ' : L2.St} {H' : Hp} {s' : Shared}, Inv (X.blk s3 H3 scope ce fp) [] σ' H' s' → (∀ b ∈ fp, H' b = none) → ∀ b ∈ fp, FpOk (X.blk s3 H3 scope ce fp) [] H' b := fun {σ' H' s'} I' hn b hb =>
    ⟨hn b hb, (I'.ok.exf b hb).1, I'.ok.exfs b hb, .inl hb, fun x c e => (I'.ok.exf b hb).2 x c e, fun p hp => absurd (show p ∈ ([] : List (Addr × Obj)) ++ [] from hp) (by simp)⟩
  suffices lp : codeAny (model X.prog X.w) X.A (.compLoop (.ListComp elt [⟨tg, iter, ifs, 0⟩] scope pos) 0 (.ref it) (.ref D) ce) (compPost (model X.prog X.w) X.A X.xe none (fun u s' => ∃ v H', Inv X pins σ H' s' ∧ RelV v u ∧ Q v H') (.ref D) s3.heap.objs.size) s4 by
    have := codeAny_compStart_list (rest := []) lp (T.self X.A 0 _ _ _ st4 lp)
    rw [e4, ece, e3] at this
    exact this
  refine compLoop_any (fun n s' => ∃ i H', Inv (X.blk s3 H3 scope ce fp) [] (wipe σ (own.map (·.2))) H' s' ∧ tn i s'.heap ∧ (∀ b ∈ fp, H' b = none) ∧ W i n H') (fun n s5 ⟨i, H5, I5, st5, n5, w5⟩ => ?_) m0 ⟨0, H3, I4, st4, fun b hb => (f3 b hb).1.1, w0⟩
  rcases turn i n H5 w5 with ⟨stop, qq⟩ | ⟨go, step⟩
  · refine wpAny_mono (T.done (X.blk s3 H3 scope ce fp) rfl rfl rfl hc i [] s5 _ H5 _ I5 (fpx I5 n5) st5 stop) (fun r s6 ⟨hr, I6⟩ => ?_) fun _ _ z => z
    subst hr
    -- back in the frame around it
    have I7 : Inv X pins σ H5 s6 := I3.call' (ch := fp) I6.os I6.base I6.hok I6.bare fun b hb => ⟨(f3 b hb).1.2.2.2.1, (f3 b hb).1.2.1, (f3 b hb).1.2.2.2.2.1, (f3 b hb).1.2.2.2.2.2⟩
    obtain ⟨m, hn, _⟩ := I6.loc
    have hn : s6.heap.Ns ce.locals m := hn
    have nC : H5 ce.locals = none := I6.free
    rw [lc] at hn nC
    obtain ⟨f0, f1, _, f4, f5, f6⟩ := I3.fpOk (Nat.le_refl _) nC
    exact ⟨m, hn, fun h'' sb => ⟨.ref D, H5, I7.turned (t' := s6.toks) (fun b o hb e => (sb.2 b hb).trans e) f0 f1 f4 f5 f6, rfl, qq⟩⟩
  · refine wpAny_mono (seen_turn (Y := X.blk s3 H3 scope ce fp) (fun _ _ z => False.elim z) hc T pg pt pe fpx I5 st5 n5 go step) (fun r s6 ⟨u, hr, h6⟩ => ?_) fun _ _ z => z
    subst hr
    exact h6
end
section
variable {X : Cx}
theorem pe_seenC {elt tg iter : Expr} {ifs : List Expr} {scope : Scope} {own : List (Str × Nat)} {pos : Pos} {wi : TI} {g : TG} {tt : TT} {te : TE} (hc : X.calm = true) (hN : X.N.Nodup) (hi : PI X tg iter wi) (ok : BlkOk X.N X.env.scope scope own)
    (hg : ∀ (s : Shared) (H : Hp) (C : Addr) (cl : List (Str × Addr)) (fp : List Addr), PG (X.blk s H scope (compEnvC scope cl C X.env) fp) tg g) (ht : ∀ (s : Shared) (H : Hp) (C : Addr) (cl : List (Str × Addr)) (fp : List Addr), PTs (X.blk s H scope (compEnvC scope cl C X.env) fp) ifs tt)
    (he : ∀ σ0, Sees X elt scope (own.map (·.2)) σ0 te) (hs : ∀ x, foldedSetIterable iter X.env x = pure x := by intro _; rfl) :
    PE X (.ListComp elt [⟨tg, iter, ifs, 0⟩] scope pos) (tLc wi g tt te (own.map (·.2))) := pe_seen (te := fun _ => te) hc hN hi ok hg ht he hs
end
structure LamN (N : List Str) (sc scope : Scope) : Prop where
  kind : scope.kind = .function
  co : scope.isCoroutine = false
  gen : scope.isGenerator = false
  own : ∀ y ∈ scope.names, (y.2 = .local → y.1 ∉ N) ∧ y.2 ≠ .cell
  free : ∀ y ∈ scope.names, y.2 = .free → sc.names.lookup y.1 = some .cell ∨ sc.names.lookup y.1 = some .free
theorem LamN.ofS {N : List Str} {sc scope : Scope} (L : LamS sc scope) : LamN N sc scope := ⟨L.kind, L.co, L.gen, fun y hy => ⟨fun e => absurd e (L.own y hy).1, (L.own y hy).2⟩, L.free⟩
theorem LamN.ofP {N : List Str} {sc scope : Scope} {a : Str} (L : LamY.LamP N sc scope a) : LamN N sc scope := ⟨L.kind, L.co, L.gen, L.own, L.free⟩
theorem Un.exs {fs ex : List Addr} {H H' : Hp} {h h' : Heap} (u : Un fs [] H H' h h') : Un fs ex H H' h h' :=
  ⟨fun b o e n f _ => u.keep b o e n f (by simp), fun b o e n f _ => u.slot b o e n f (by simp), fun b o e n _ => u.free b o e n (by simp), fun b o e _ => u.there b o e (by simp), u.tups, u.frzs, u.tbls⟩
theorem wipe_at {σ : L2.St} {i : Nat} : ∀ {vs : List Nat}, i ∉ vs → (wipe σ vs)[i]? = σ[i]?
  | [], _ => rfl
  | v :: vs, h => by
    unfold wipe
    rw [List.getElem?_set_ne (fun z => h (by simp [z]))]
    exact wipe_at fun z => h (List.mem_cons_of_mem _ z)
section
variable {M : Cx} {pins0 : List (Addr × Obj)} {σ0 σ2 : L2.St} {H0 HZ : Hp} {s0 s1 : Shared}
theorem start2 {A : Around} {outer : List Env} {E : XK} {scope : Scope} {f c' : Addr} {h₁ : Heap} {tk : Nat} {bs : List (Str × Value)} {vs : List Nat} {fp : List Addr} (I : Inv M pins0 σ0 H0 s0) (L : LamN M.N M.env.scope scope) (hw : wipe σ2 vs = wipe σ0 vs) (hv : ∀ y ∈ scope.names, y.2 = .free → ∀ i ∈ vs, M.N[i]? ≠ some y.1)
    (cf : ∀ b ∈ fp, ∀ x c, M.env.cells.lookup x = some c → c ≠ b) (un : Un (frs M.stack) fp H0 HZ s0.heap s1.heap) (e0 : Env0 M.prog M.w M.K M.mg M.base A outer s1 HZ) (hd : A.handled = none) (hns : h₁.Ns s1.heap.objs.size fun y => bs.reverse.lookup y) (kp : ∀ b o, s1.heap.get? b = some o → h₁.get? b = some o) :
    Inv (lamCx M A outer s1 HZ E scope f c') [] σ2 HZ { s1 with heap := h₁, toks := tk } := by
  have has : ∀ y ∈ scope.names, y.2 = .free → ∃ c, M.env.cells.lookup y.1 = some c := fun y hy e => (L.free y hy e).elim (fun k => I.ok.has _ (.inl k)) fun k => I.ok.has _ (.inr k)
  have nin : ∀ {x c}, M.env.cells.lookup x = some c → c ∉ fp := fun {x c} e z => cf c z x c e rfl
  have cm : ∀ {y c}, (cloFrom M.env.cells scope.names []).lookup y = some c → M.env.cells.lookup y = some c := fun {y c} e => by
    rcases cloFrom_mem (PySem.mem_of_lookup e) with hm | ⟨h1, h2⟩
    · cases hm
    · obtain ⟨c1, hc⟩ := has _ h1 rfl
      have hc : M.env.cells.lookup y = some c1 := hc
      have e2 : c = c1 := by
        rw [h2, hc] <;> rfl
      rw [e2]
      exact hc
  have look : ∀ {y}, scope.names.lookup y = some .free → ∃ c, (cloFrom M.env.cells scope.names []).lookup y = some c := fun {y} hl => mem_lookup (cloFrom_has (cells := M.env.cells) (acc := []) (PySem.mem_of_lookup hl : (y, NameKind.free) ∈ scope.names))
  have cellK : ∀ {y : Str} {c : Addr} {v : Option Value}, M.env.cells.lookup y = some c → s0.heap.IsCell c v → h₁.IsCell c v := fun {y c v} e ⟨o, ho, hd⟩ => by
    obtain ⟨sl, q⟩ := un.any ho (I.freeC y c e) (nin e)
    exact ⟨_, kp _ _ q, hd⟩
  have noA : ∀ b : Addr, b ∉ (lamCx M A outer s1 HZ E scope f c').ex := fun b z => absurd (show b ∈ ([] : List Addr) from z) (by simp)
  have oks : (lamCx M A outer s1 HZ E scope f c').Ok := ⟨e0.mod, L.kind, rfl, rfl, Nat.le_refl _, fun y z c e1 e2 => I.ok.inj y z c (cm e1) (cm e2), (fun y hy => by
      have hy : scope.names.lookup y = some .cell ∨ scope.names.lookup y = some .free := hy
      rcases hy with hy | hy
      · exact absurd rfl (L.own _ (PySem.mem_of_lookup hy)).2
      · exact look hy), (fun y c z _ => by
      have z : false = true := z
      cases z), fun _ => hd, Around.frames_deeper e0.frames, .inr ⟨rfl, rfl⟩, fun b z => absurd z (noA b), e0.bs, e0.bsz, fun b _ _ => noA b, fun b z => absurd z (noA b), e0.funs, e0.frf⟩
  refine ⟨oks, rfl, e0.bare, Un.kept kp, ⟨_, hns, fun i y v e1 e2 e3 => ?_⟩, fun y c e => ?_, e0.hok.fresh (Nat.le_refl _), fun y c e => ?_, fun q hq => absurd (show q ∈ ([] : List (Addr × Obj)) ++ [] from hq) (by simp), e0.hok.kept kp, ?_⟩
  · have e1 : M.N[i]? = some y := e1
    have e3 : Vis scope y := e3
    rcases e3 with k | k | k
    · exact absurd (List.mem_of_getElem? e1) ((L.own _ (PySem.mem_of_lookup k)).1 rfl)
    · exact absurd rfl (L.own _ (PySem.mem_of_lookup k)).2
    · have ni : i ∉ vs := fun z => hv _ (PySem.mem_of_lookup k) rfl i z e1
      have e4 : σ0[i]? = some (some v) := by rw [← wipe_at ni, ← hw, wipe_at ni]; exact e2
      obtain ⟨m, hn, hl⟩ := I.loc
      have hvis : Vis M.env.scope y := (L.free _ (PySem.mem_of_lookup k) rfl).elim (fun k => .inr (.inl k)) (fun k => .inr (.inr k))
      obtain ⟨w', r, q⟩ := hl i y v e1 e4 hvis
      obtain ⟨c2, h2⟩ := look k
      refine ⟨w', r, .inr ⟨.inr k, c2, h2, ?_⟩⟩
      have c1 := cm h2
      rcases q with ⟨k', _⟩ | ⟨_, c3, e', z⟩
      · have k' : M.env.scope.names.lookup y = some .local := k'
        rcases L.free _ (PySem.mem_of_lookup k) rfl with k2 | k2 <;> rw [show M.env.scope.names.lookup y = _ from k2] at k' <;> cases k'
      · rw [c1] at e'
        cases e'
        exact cellK c1 z
  · obtain ⟨w', z⟩ := I.cell y c (cm e)
    exact ⟨w', cellK (cm e) z⟩
  · obtain ⟨v, o, ho, _⟩ := I.cell y c (cm e)
    exact un.free c o ho (I.freeC y c (cm e)) (nin (cm e))
  · show σ2.length = M.N.length
    rw [← I.len, ← wipe_length σ2 vs, hw, wipe_length]
theorem act {CXg : CXT} {Eg : XK} {Ng : List Str} {qg : Str} {sg sB : Scope} {ce : Env} {g f c' : Addr} {cdg dV : Value} {p : FnKey} {k i : Nat} {a : Str} {pins pn : List (Addr × Obj)} {xe : Value → Shared → Prop} {W : WX} {E : XK} {tb : TE} {p1 p2 : Pos} {vs : List Nat} {fp : List Addr} {H : Hp} {s : Shared}
    (I0 : Inv M pins0 σ0 H0 s0) (cf : ∀ b ∈ fp, ∀ x c, M.env.cells.lookup x = some c → c ≠ b) (I : Inv (M.blk s0 H0 sB ce fp) pins σ2 H s) (hw : wipe σ2 vs = wipe σ0 vs) (hc : p.cells = M.env.cells) (hq : p.q = M.env.qual ++ "<lambda>") (L : LamN M.N M.env.scope p.scope) (hv : ∀ y ∈ p.scope.names, y.2 = .free → ∀ i ∈ vs, M.N[i]? ≠ some y.1)
    (hbind : ∀ (doc pm ctv : Value) (s1 : Shared) (HZ : Hp) (ZX : Cx) (pinsZ : List (Addr × Obj)) (σZ : L2.St), Inv ZX pinsZ σZ HZ s1 → DfOk p HZ dV → ∃ bs : List (Str × Value), BindsTo s1 (PySem.W.kdv_fn "<lambda>" p.q p.params (.expr p.body) p.scope (cloFrom p.cells p.scope.names []) dV doc pm (.ref c') ctv) ⟨[], []⟩ bs ∧ ∀ y ∈ bs, p.scope.names.lookup y.1 = some .local)
    (tk : Takes ((cxOf CXg M.prog M.w M.K M.mg M.base Ng qg sg g cdg M.A M.stack s H Eg).tr pn xe) W) (hW : ∀ cls d σ' H', E cls d H' → W cls d σ' H') (hr : Room (k + 1) (M.A.deeper (envOfC qg sg s.heap.objs.size g cdg)))
    (hbody : ∀ (A : Around) (outer : List Env) (s : Shared) (H : Hp), Room k (A.deeper (lamEnv M p.scope s.heap.objs.size f c')) → PE (lamCx M A outer s H E p.scope f c') p.body tb)
    (hN : Ng[i]? = some a) (hva : Vis sg a) (hd : (a == ("__debug__" : Str)) = false := by decide) (hcd : (a == ("__classdict__" : Str)) = false := by decide) :
    PE ((cxOf CXg M.prog M.w M.K M.mg M.base Ng qg sg g cdg M.A M.stack s H Eg).tr pn xe) (.Call (.Name a p1) [] [] p2)
      (fun σZ HZ Q => σZ[i]? = some (some (.ref f)) ∧ HZ c' = some (CodeO c' p.q) ∧ HZ f = some (.ext (FnO p f c' dV)) ∧ DfOk p HZ dV ∧ tb σ2 HZ Q) := by
  refine ⟨fun pinsZ sZ σZ HZ Q IZ h => ?_⟩
  obtain ⟨hs, hcc, hff, hdd, ht⟩ := h
  refine wpAny_Call_Name_kw (thn ((pe_var (pos := p1) (i := i) hN hva hd hcd).run pinsZ sZ σZ HZ (fun v H1 => v = .ref f ∧ H1 = HZ) IZ ⟨.ref f, hs, rfl, rfl⟩) fun u s1 ⟨v, H1, I1, r1, q1⟩ => ?_)
  obtain ⟨ev, eH⟩ := q1
  subst ev
  rw [eH] at I1
  obtain rfl : u = Value.ref f := r1
  obtain ⟨⟨doc, pm, ctv, of1⟩, _, _⟩ := I1.hok f _ hff
  refine PySem.W.callWith_F0 ⟨_, _, _, _, of1⟩ ?_
  have u0 : Un (frs M.stack) fp H0 H s0.heap s.heap := I.base
  have u1 : Un (frs M.stack) [] H HZ s.heap s1.heap := I1.base
  have un : Un (frs M.stack) fp H0 HZ s0.heap s1.heap := u0.trans (Un.exs u1)
  obtain ⟨⟨oc, us, t, hoc, hdc, hvc⟩, _, _⟩ := I1.hok c' _ hcc
  have rc : codeAny (model M.prog M.w) (M.A.deeper (envOfC qg sg s.heap.objs.size g cdg)) (.call (.ref f) ⟨[], []⟩) (CR (L2.CX M.prog M.w) (envOfC qg sg s.heap.objs.size g cdg :: M.stack) M.prog M.w HZ s1 Q E) s1 := by
    refine PySem.W.kla_callFunE hr.depth of1 rfl L.co L.gen rfl ⟨c', oc, us, t, rfl, hoc, hdc, hvc⟩ ?_
    obtain ⟨bs, hb1, hb2⟩ := hbind doc pm ctv s1 HZ _ _ _ I1 hdd
    refine hb1 _ _ _ _ ?_
    refine wpAny_newFunctionEnv (fun y hy => (L.own y hy).2) hb2 (fun h₁ hns hsb => ⟨I1.nolimit.fresh _ hsb, ?_⟩) L.kind
    show codeAny _ _ (.expr p.body (PySem.W.envX p.q p.scope s1.heap.objs.size f (.ref c') (cloFrom p.cells p.scope.names []))) _ _
    rw [hc, hq]
    have kp : ∀ b o, s1.heap.get? b = some o → h₁.get? b = some o := fun b o e => hsb.extBut b o (Nat.ne_of_lt (Heap.lt_size e)) (Heap.get?_push_of_some _ e)
    have J := start2 (A := M.A.deeper (envOfC qg sg s.heap.objs.size g cdg)) (outer := envOfC qg sg s.heap.objs.size g cdg :: M.stack) (E := E) (f := f) (c' := c') (h₁ := h₁) (tk := s1.toks + bs.length) (bs := bs) I0 L hw hv cf un I1.env0 hr.hd hns kp
    refine PySem.W.kla_codeExpr (wpAny_mono ((hbody _ _ s1 HZ (hr.deeper _)).run [] _ _ HZ Q J ht) (fun v s' hq => ?_) fun e s' hq => hq)
    obtain ⟨w', H', J', rv, q⟩ := hq
    exact ⟨w', H', J'.os, J'.bare, J'.base, J'.hok, rv, q⟩
  have hx : Passes (L2.CX M.prog M.w) ((cxOf CXg M.prog M.w M.K M.mg M.base Ng qg sg g cdg M.A M.stack s H Eg).tr pn xe) E := passes_call tk hW
  refine wpAny_call (codeAny_mono rc fun r s' hq => ?_)
  cases r with
  | error e => exact hx pinsZ σZ HZ s1 e s' I1 hq
  | ok fl =>
    cases fl with
    | ret u => exact I1.after hq
    | next => exact False.elim hq
    | brk => exact False.elim hq
    | cont => exact False.elim hq
end
/-- a lambda's names, what it takes, its body's reading -/
structure Lamb (M : Cx) (vs : List Nat) (k : Nat) (p : FnKey) (t : XK → TE) : Prop where
  cells : p.cells = M.env.cells
  q : p.q = M.env.qual ++ "<lambda>"
  nm : LamN M.N M.env.scope p.scope
  off : ∀ y ∈ p.scope.names, y.2 = .free → ∀ i ∈ vs, M.N[i]? ≠ some y.1
  bind : ∀ (c' : Addr) (dV doc pm ctv : Value) (s1 : Shared) (HZ : Hp) (ZX : Cx) (pinsZ : List (Addr × Obj)) (σZ : L2.St), Inv ZX pinsZ σZ HZ s1 → DfOk p HZ dV →
      ∃ bs : List (Str × Value), BindsTo s1 (PySem.W.kdv_fn "<lambda>" p.q p.params (.expr p.body) p.scope (cloFrom p.cells p.scope.names []) dV doc pm (.ref c') ctv) ⟨[], []⟩ bs ∧ ∀ y ∈ bs, p.scope.names.lookup y.1 = some .local
  body : ∀ (A : Around) (outer : List Env) (s : Shared) (H : Hp) (E : XK) (f c' : Addr), Room k (A.deeper (lamEnv M p.scope s.heap.objs.size f c')) → PE (lamCx M A outer s H E p.scope f c') p.body (t E)
def offB (N : List Str) (scope : Scope) (vs : List Nat) : Bool := scope.names.all fun y => !decide (y.2 = .free) || vs.all fun i => !decide (N[i]? = some y.1)
theorem off_by {N : List Str} {scope : Scope} {vs : List Nat} (h : offB N scope vs = true) : ∀ y ∈ scope.names, y.2 = .free → ∀ i ∈ vs, N[i]? ≠ some y.1 := fun y hy e i hi => by
  unfold offB at h
  simp only [List.all_eq_true, Bool.or_eq_true, Bool.not_eq_true', decide_eq_false_iff_not] at h
  rcases h y hy with z | z
  · exact absurd e z
  · exact z i hi
section
variable {X : Cx}
theorem lamb0 {vs : List Nat} {k : Nat} {params : Arguments} {body : Expr} {scope : Scope} {t : XK → TE} (L : LamS X.env.scope scope) (hv : ∀ y ∈ scope.names, y.2 = .free → ∀ i ∈ vs, X.N[i]? ≠ some y.1)
    (hbind : ∀ (q : Str) (cl : List (Str × Addr)) (doc pm cv ctv : Value), bindArgs (PySem.W.kdv_fn "<lambda>" q params (.expr body) scope cl .none doc pm cv ctv) ⟨[], []⟩ = pure [])
    (hbody : ∀ (A : Around) (outer : List Env) (s : Shared) (H : Hp) (E : XK) (f c' : Addr), Room k (A.deeper (lamEnv X scope s.heap.objs.size f c')) → PE (lamCx X A outer s H E scope f c') body (t E)) :
    Lamb X vs k ⟨X.env.qual ++ "<lambda>", params, body, scope, X.env.cells, false⟩ t where
  cells := rfl
  q := rfl
  nm := .ofS L
  off := hv
  bind := fun c' dV doc pm ctv s1 HZ ZX pinsZ σZ IZ d => by
    unfold DfOk at d
    rw [if_neg (by simp)] at d
    subst d
    refine ⟨[], fun M A E Q h => ?_, fun y hy => absurd hy (by simp)⟩
    rw [hbind]
    exact wpAny_pure h
  body := hbody
theorem lamb1 {vs : List Nat} {k : Nat} {params : Arguments} {body : Expr} {scope : Scope} {t : XK → TE} {b0 : Str} (L : LamY.LamP X.N X.env.scope scope b0) (hv : ∀ y ∈ scope.names, y.2 = .free → ∀ i ∈ vs, X.N[i]? ≠ some y.1)
    (hbind : ∀ (q : Str) (cl : List (Str × Addr)) (dV doc pm cv ctv dv : Value), ∃ kk : Option (Array Value) → Sem (List (Str × Value)), bindArgs (PySem.W.kdv_fn "<lambda>" q params (.expr body) scope cl dV doc pm cv ctv) ⟨[], []⟩ = seqItems? dV >>= kk ∧ kk (some [dv].toArray) = pure [(b0, dv)])
    (hbody : ∀ (A : Around) (outer : List Env) (s : Shared) (H : Hp) (E : XK) (f c' : Addr), Room k (A.deeper (lamEnv X scope s.heap.objs.size f c')) → PE (lamCx X A outer s H E scope f c') body (t E)) :
    Lamb X vs k ⟨X.env.qual ++ "<lambda>", params, body, scope, X.env.cells, true⟩ t where
  cells := rfl
  q := rfl
  nm := .ofP L
  off := hv
  bind := fun c' dV doc pm ctv s1 HZ ZX pinsZ σZ IZ d => by
    unfold DfOk at d
    rw [if_pos rfl] at d
    obtain ⟨T0, e, g⟩ := d
    subst e
    obtain ⟨⟨dv, of0⟩, _, _⟩ := IZ.hok T0 _ g
    obtain ⟨kk, hb1, hb2⟩ := hbind (X.env.qual ++ "<lambda>") (cloFrom X.env.cells scope.names []) (.ref T0) doc pm (.ref c') ctv dv
    exact ⟨[(b0, dv)], BindsTo.of_defaults (T := T0) rfl of0 rfl hb1 hb2, fun y hy => by rw [List.mem_singleton.mp hy]; exact L.par⟩
  body := hbody
def tFn (X : Cx) (vs : List Nat) (k : Nat) (TT : (XK → Hp → VK → Prop) → Hp → VK → Prop) (tx : TE) : TE := fun σ H Q => tx σ H fun v H0 => ∃ (f c' : Addr) (dV : Value) (key : FnKey) (t : XK → TE), v = .ref f ∧ Lamb X vs k key t ∧ H0 f = some (.ext (FnO key f c' dV)) ∧ H0 c' = some (CodeO c' key.q) ∧ DfOk key H0 dV ∧
  TT (fun E H' Q' => H' f = some (.ext (FnO key f c' dV)) ∧ DfOk key H' dV ∧ t E σ H' Q') H0 Q
/-- x(w), w a kept lambda, in a block's element -/
theorem sees_call {TT : (XK → Hp → VK → Prop) → Hp → VK → Prop} {x a : Str} {g : Addr} {k : Nat} {pg : Arguments} {bg : List Stmt} {sg sB : Scope} {dV0 kV doc pm cdv ct oc : Value} {an od : Option Addr} {osl : Array (Option Value)} {Ng : List Str}
    {y : Str} {tx : TE} {p py pos : Pos} {vs : List Nat} {σ0 : L2.St} (hg : ∀ s H C cl fp, Gl (X.blk s H sB (compEnvC sB cl C X.env) fp) x) (hm : X.mg x = some (.ref g)) (hk : PySem.W.keepIn X.K (.ref g) = true)
    (lk : X.K.lookup g = some ⟨oc, od, .func (PySem.W.fnOf x x pg bg sg dV0 kV doc pm an cdv ct), osl⟩) (hcg : PySem.W.codeIn X.K cdv x = true) (hb : L2.Binds X.K (PySem.W.fnOf x x pg bg sg dV0 kV doc pm an cdv ct) [a] []) (Sg : FnScope Ng [a] sg) (hNg : Ng[0]? = some a) (hva : Vis sg a)
    (hG : ∀ s H C cl fp, GivesTo (X.blk s H sB (compEnvC sB cl C X.env) fp) Ng x sg g cdv bg a (X.env.qual ++ "<lambda>") TT) (hr : Room (k + 2) X.A) (px : ∀ s H C cl fp, PE (X.blk s H sB (compEnvC sB cl C X.env) fp) (.Name y py) tx)
    (hdb : (x == ("__debug__" : Str)) = false := by decide) (hd : (a == ("__debug__" : Str)) = false := by decide) (hcd : (a == ("__classdict__" : Str)) = false := by decide) :
    Sees X (.Call (.Name x p) [.Name y py] [] pos) sB vs σ0 (tFn X vs k TT fun σ H Q => tx σ H fun v H' => Q v H') := by
  intro pins0 s0 H0 C cl fp I0 cf
  refine ⟨fun pins s σ H Q I h => ?_⟩
  obtain ⟨hw, h⟩ := h
  refine wpAny_Call_Name_kw (ld_glob I (hg s0 H0 C cl fp) hm ?_ hdb)
  refine PySem.W.callWith_K (h₀ := X.base) I.ok.mod.kin hk ?_ (by rfl) (by rfl)
  show wpAny _ _ (spliced ((false, eval (.Name y py) (X.blk s0 H0 sB (compEnvC sB cl C X.env) fp).env) :: backTo pos (starEach [] (X.blk s0 H0 sB (compEnvC sB cl C X.env) fp).env))) _ _ s
  refine Calls.spliced_cons (thn ((px s0 H0 C cl fp).run pins s σ H _ I h) fun u s' ⟨v, H1, I1, rv, hq⟩ => ?_)
  obtain ⟨f, c', dV, key, t, ev, LB, hf, hco, hdf, hT⟩ := hq
  subst ev
  obtain rfl : u = Value.ref f := rv
  refine Calls.spliced_nil ⟨I1.kIn, ?_⟩
  have rc : codeAny (model X.prog X.w) X.A (.call (.ref g) ⟨[.ref f], []⟩) (CR C8.CX0 X.stack X.prog X.w H1 s' Q C8.E0) s' := by
    refine run_ofS (N := Ng) (ps := [a]) (us := [.ref f]) (vs := [.ref f]) lk hcg Sg hr I1.env0 (hb s' [.ref f] I1.kIn rfl) (.cons rfl .nil) rfl fun hr' => ?_
    obtain ⟨t', ht', hq'⟩ := hG s0 H0 C cl fp f c' s' H1 Q (fun E H' Q' => H' f = some (.ext (FnO key f c' dV)) ∧ DfOk key H' dV ∧ t E σ H' Q') (fun W pn xe E p1 p2 tk hW => by
      have A := act (i := 0) (a := a) (E := E) (W := W) (pn := pn) (xe := xe) (p1 := p1) (p2 := p2) (tb := t E) (f := f) (c' := c') (dV := dV) I0 cf I1 hw LB.cells LB.q LB.nm LB.off (LB.bind c' dV) tk hW hr' (fun A outer s H hr2 => LB.body A outer s H E f c' hr2) hNg hva hd hcd
      rw [LB.q] at A
      exact A) (by rw [← LB.q]; exact hco) hT
    exact ⟨t', ht'.nox, hq'⟩
  refine wpAny_call (codeAny_mono rc fun r s2 hq => ?_)
  cases r with
  | error e => exact (show False from hq).elim
  | ok fl =>
    cases fl with
    | ret u => exact I1.after hq
    | next => exact False.elim hq
    | brk => exact False.elim hq
    | cont => exact False.elim hq
end
def LamAll (X : Cx) (C : Ct) (vs : List Nat) (k : Nat) (l : List (FnKey × M D)) : Prop := ∀ q ∈ l, Lamb X vs k q.1 (fun E => tF ⟨C.K, C.T, fun c d _ H => E c d H⟩ q.2)
theorem lk_nil {X : Cx} {C : Ct} {vs : List Nat} {k : Nat} : LamAll X C vs k [] := fun q h => nomatch h
theorem lk_cons {X : Cx} {C : Ct} {vs : List Nat} {k : Nat} {p : FnKey} {f : M D} {l : List (FnKey × M D)} (a : Lamb X vs k p (fun E => tF ⟨C.K, C.T, fun c d _ H => E c d H⟩ f)) (r : LamAll X C vs k l) : LamAll X C vs k ((p, f) :: l) := fun q h => by
  rcases List.mem_cons.mp h with e | h
  · subst e
    exact a
  · exact r q h
section
variable {X : Cx} {C : Ct}
theorem sees_kindF {k : Nat} {e : Expr} {sB : Scope} {vs : List Nat} {σ0 : L2.St} {tbl : List (FnKey × M D)} {fx : M D} (hL : LamAll X C vs k tbl) (p : Sees X e sB vs σ0 (tFn X vs k (Bm.TKind C.K) (tF C fx))) : Sees X e sB vs σ0 (tF C (kindFM tbl fx)) := fun pins s0 H0 Cc cl fp I0 cf => imE (p pins s0 H0 Cc cl fp I0 cf) fun σ H Q h => by
  obtain ⟨hw, h⟩ := h
  refine ⟨hw, ?_⟩
  obtain ⟨G, ι, en, k0, h⟩ := h
  refine ⟨G, ι, en, k0, ?_⟩
  refine PX.imp (PX.bnd h) fun d e1 G1 ι1 H1 u1 k1 q1 v rv => ?_
  cases d with
  | fn kk p =>
    dsimp only at q1
    cases tb : tbl[kk]? with
    | none =>
      rw [tb] at q1
      exact q1.elim
    | some pf =>
      obtain ⟨p', f⟩ := pf
      rw [tb] at q1
      dsimp only at q1
      split at q1
      · rename_i ep
        subst ep
        cases rv with
        | @fn a c dV _ _ ha hc hd =>
          have LB := hL _ (List.mem_of_getElem? tb)
          have hd' := hd.same k1.hs.s
          refine ⟨a, c, dV, p, _, rfl, LB, k1.hs.s _ _ ha, k1.hs.s _ _ hc, hd', ?_⟩
          exact ⟨k1.hs.s _ _ ha, hd', kind_in ⟨G1, ι1, e1, k1, q1⟩⟩
      · exact q1.elim
  | _ => exact q1.elim
end
end LamK
namespace Fv
end Fv
set_option autoImplicit false
set_option Elab.async false
set_option linter.all false
set_option maxRecDepth 100000
set_option maxHeartbeats 4000000
namespace Lk26
open PySem PySem.Spec PyProof.Rows L2 Bm
local macro_rules
  | `(tactic| array_get_dec) => `(tactic| first | refine ⟨_, rfl, ?_⟩ | refine ⟨_, _, rfl, rfl, ?_⟩ | refine ⟨rfl, ?_⟩ | refine ⟨_, _, rfl, ?_⟩ | refine ⟨⟨_, rfl⟩, ?_⟩ | refine iteDT (by decide) ?_ | refine iteDF (by decide) ?_ | refine iteBT (by decide) ?_ | refine iteBF (by decide) ?_ | refine ⟨_, _, rfl, rfl, ⟨by decide, by decide⟩, ?_⟩)
local macro_rules
  | `(tactic| and_intros) => `(tactic| (repeat (array_get_dec)))
section
def lawQ : Str := (envOfC "law" (defScope s_law) 0 0 .none).qual
abbrev lawT (K : PySem.W.Frag) : List (Addr × Str) := [((He.cT K ("law", none)).2, lawQ ++ "<lambda>")]
theorem pe_kind {X : Cx} {k j : Nat} {params : Arguments} {body : Expr} {scope : Scope} {t : XK → TE} {p lpos pos : Pos} (T : Txt X.K X.mg) (Df : Defs X.K) (TB : LamX.TabB X.base X.mg (He.cT X.K ("law", none)).1 (He.cT X.K ("law", none)).2)
    (hcode : X.env.code = .ref (He.cT X.K ("law", none)).1) (hq : X.env.qual = lawQ) (hr : Room j X.A) (hj : k + 2 ≤ j) (L : LamX.LamS X.env.scope scope) (hdef : defaultsOf params X.env = ([], []))
    (hbind : ∀ (q : Str) (cl : List (Str × Addr)) (pm cv ctv : Value), bindArgs (PySem.W.kla_fn "<lambda>" q params body scope cl pm cv ctv) ⟨[], []⟩ = pure [])
    (hbody : ∀ (A : Around) (outer : List Env) (s : Shared) (H : Hp) (E : XK) (f c' : Addr), Room k (A.deeper (LamX.lamEnv X scope s.heap.objs.size f c')) → PE (LamX.lamCx X A outer s H E scope f c') body (t E)) (hg : Gl X "_law_kind" := by rfl) :
    PE X (.Call (.Name "_law_kind" p) [.Lambda params body scope lpos] [] pos) (LamX.tLam (lawT X.K) (TKind X.K) t) := by
  obtain ⟨fd, F⟩ := Df.law_kind
  have b := F.bindsN (ps := ["_law_work"]) fun _ _ _ _ _ _ us hl => match us, hl with | [_], _ => rfl
  have kp := F.kp
  obtain ⟨oc, od, dV, kV, doc, pm, an, cdv, ct, osl, rfl, lk, hcd, _, _⟩ := F.ex
  have e : lawT X.K = [((He.cT X.K ("law", none)).2, X.env.qual ++ "<lambda>")] := by rw [hq]
  rw [e]
  exact LamX.pe_lamcall (TT := TKind X.K) hg T.g_law_kind kp lk hcd b sc_law_kind rfl (Or.inl rfl) (kind_gives T) TB hcode (List.mem_singleton.mpr rfl) (fun p hp _ => by rw [List.mem_singleton.mp hp]) (hr.mono hj) L hdef hbind hbody
end
section
end
section
theorem sees_kind {X : Cx} {k j : Nat} {y : Str} {tx : TE} {sB : Scope} {vs : List Nat} {σ0 : L2.St} {p py pos : Pos} (T : Txt X.K X.mg) (Df : Defs X.K) (hr : Room j X.A) (hj : k + 2 ≤ j) (px : ∀ s H C cl fp, PE (X.blk s H sB (compEnvC sB cl C X.env) fp) (.Name y py) tx) (hg : ∀ s H C cl fp, Gl (X.blk s H sB (compEnvC sB cl C X.env) fp) "_law_kind") :
    LamK.Sees X (.Call (.Name "_law_kind" p) [.Name y py] [] pos) sB vs σ0 (LamK.tFn X vs k (TKind X.K) tx) := by
  obtain ⟨fd, F⟩ := Df.law_kind
  have b := F.bindsN (ps := ["_law_work"]) fun _ _ _ _ _ _ us hl => match us, hl with | [_], _ => rfl
  have kp := F.kp
  obtain ⟨oc, od, dV, kV, doc, pm, an, cdv, ct, osl, rfl, lk, hcd, _, _⟩ := F.ex
  exact LamK.sees_call (TT := TKind X.K) hg T.g_law_kind kp lk hcd b sc_law_kind rfl (Or.inl rfl) (fun s H C cl fp => kind_gives (X := X.blk s H sB (compEnvC sB cl C X.env) fp) T) (hr.mono hj) px
end
end Lk26
set_option autoImplicit false
set_option Elab.async false
set_option linter.all false
set_option maxRecDepth 100000
set_option maxHeartbeats 4000000
namespace Lk26
open PySem PySem.Spec PyProof.Rows L2 Bm Fv LamK
section
variable {P : Program} {w : World} {K : PySem.W.Frag} {mg : Str → Option Value} {base : Heap}
noncomputable def F_law_same : Fun := sameF 3
theorem fnv_law_same (T : Txt K mg) (Df : Defs K) : Fn P w K mg base L2.CX0 4 "_law_same" (spF K 2 F_law_same) [] := same_fn (fn_law_same T Df 3)
end
section
variable {P : Program} {w : World} {K : PySem.W.Frag} {mg : Str → Option Value} {base : Heap}
theorem sc_law : FnScope ["_law_script", "_law_state", "_law_words", "_law_change", "_law_word", "_law_again", "_law_works", "_law_due_here", "_law_at", "_law_block_here", "_law_odd", "_law_turn", "_law_k", "_law_work"] ["_law_script"] (defScope s_law) := ⟨rfl, rfl, rfl, by decide +kernel, rfl, by decide +kernel, by decide +kernel⟩
noncomputable def B_law (p1 p2 p3 p4 : FnKey) : M Fl :=
  (seqM (setM (callM F_law_start [] (consM (eV 0) nilM)) (putS 1))
  (seqM (forM (rng1 (consM (ret (.int (8))) nilM)) (putS 11) (seqM (setM (dropM (lcP (.one 12) [12] (rng1 (consM (e2 addD (ret (.int (1))) (callM F_law_drawn [] (consM (eV 1) (consM (ret (.int (14))) nilM)))) nilM)) (ret true) (callM F_law_drawn [] (consM (eV 1) (consM (e2 ixD (frzM (lstM (consM (ret (.int (65536))) (consM (ret (.int (2))) nilM)))) (e2 modD (eV 11) (ret (.int (2))))) nilM))))) (putS 2))
  (seqM (setM (callM F_law_block [] (consM (eV 2) nilM)) (putS 9))
  (seqM (forM (rng1 (consM (callM F_law_drawn [] (consM (eV 1) (consM (ret (.int (5))) nilM))) nilM)) (putS 3) (setM (callM F_law_flipped [] (consM (eV 9) (consM (callM F_law_drawn [] (consM (eV 1) (consM (cN lenD (consM (eV 9) nilM)) nilM))) (consM (callM F_law_drawn [] (consM (eV 1) (consM (ret (.int (16))) nilM))) nilM)))) (putS 9)))
  (seqM (ifS (bM (e2 eqD (callM F_law_drawn [] (consM (eV 1) (consM (ret (.int (3))) nilM))) (ret (.int (0)))))
  (seqM (setM (callM F_law_drawn [] (consM (eV 1) (consM (cN lenD (consM (eV 2) nilM)) nilM))) (putS 4))
  (seqM (setM (callM F_law_flipped [] (consM (callM F_law_block [] (consM (eV 2) nilM)) (consM (eV 4) (consM (callM F_law_drawn [] (consM (eV 1) (consM (ret (.int (16))) nilM))) nilM)))) (putS 9))
  (seqM (setM (callM F_law_flipped [] (consM (eV 9) (consM (e2 addD (cN lenD (consM (eV 2) nilM)) (ret (.int (1)))) (consM (eV 4) nilM)))) (putS 9))
  (setM (callM F_law_flipped [] (consM (eV 9) (consM (e2 addD (cN lenD (consM (eV 2) nilM)) (ret (.int (1)))) (consM (e2 subD (ret (.int (15))) (callM F_law_drawn [] (consM (eV 1) (consM (e2 subD (ret (.int (16))) (eV 4)) nilM)))) nilM)))) (putS 9)))))
  (ret .nx))
  (seqM (ifS (bM (e2 eqD (callM F_law_drawn [] (consM (eV 1) (consM (ret (.int (4))) nilM))) (ret (.int (0)))))
  (setM (cN tupleD (consM (dropM (lcP (.one 12) [12] (rng1 (consM (e2 addD (ret (.int (3))) (callM F_law_drawn [] (consM (eV 1) (consM (ret (.int (3))) nilM)))) nilM)) (ret true) (callM F_law_drawn [] (consM (eV 1) (consM (ret (.int (4))) nilM))))) nilM)) (putS 9))
  (ret .nx))
  (seqM (forM (rng1 (consM (ret (.int (2))) nilM)) (putS 5) (ifS (notM (bM (callM F_law_same [] (consM (kindM (callM F_mended [] (consM (eV 9) nilM))) (consM (callM F_law_due [] (consM (eV 9) nilM)) nilM)))))
  (retM (ret (.bl false)))
  (ret .nx)))
  (seqM (setM (callM F_law_drawn [] (consM (eV 1) (consM (e2 addD (cN lenD (consM (eV 9) nilM)) (ret (.int (1)))) nilM))) (putS 8))
  (seqM (setM (e2 ixD (frzM (lstM (consM (ret (.int (65536))) (consM (e2 subD (ret (.int (0))) (ret (.int (1)))) (consM (e2 powD (ret (.int (10))) (ret (.int (20)))) nilM))))) (callM F_law_drawn [] (consM (eV 1) (consM (ret (.int (3))) nilM)))) (putS 10))
  (seqM (setM (frzM (lstM (consM (fnM 0 p1) (consM (fnM 1 p2) nilM)))) (putS 6))
  (seqM (setM (e2 addD (eV 6) (frzM (lstM (consM (fnM 2 p3) (consM (fnM 3 p4) nilM))))) (putS 6))
  (seqM (setM (frzM (lstM (consM (tupM (consM (ret (.str "BadImage")) (consM (eV 8) nilM))) (consM (tupM (consM (ret (.str "BadImage")) (consM (ret (.int (16))) nilM))) (consM (tupM (consM (ret (.str "BadImage")) (consM (e2 modD (eV 11) (ret (.int (3)))) nilM))) (consM (tupM (consM (ret (.str "BadImage")) (consM (ret (.int (16))) nilM))) nilM)))))) (putS 7))
  (ifS (andM (bM (e2 ltD (eV 8) (ret (.int (16))))) (notM (bM (callM F_law_same [] (consM (dropM (lcP (.one 13) [13] (seqI (eV 6)) (ret true) (kindFM [(p1, (callM F_mended [] (consM (slM (e2 addD (e2 addD (slM (eV 9) (prt none) (prt (some (eV 8)))) (tupM (consM (eV 10) nilM))) (slM (eV 9) (prt (some (eV 8))) (prt none))) (prt none) (prt (some (ret (.int (16)))))) nilM))), (p2, (callM F_mended [] (consM (e2 mulA (tupM (consM (ret (.int (0))) nilM)) (ret (.int (17)))) nilM))), (p3, (callM F_mended [] (consM (slM (tupM (consM (ret (.int (1))) (consM (ret (.int (2))) nilM))) (prt none) (prt (some (e2 modD (eV 11) (ret (.int (3))))))) nilM))), (p4, (callM F_mended [] (consM (e2 mulA (frzM (lstM (consM (ret (.int (0))) nilM))) (ret (.int (17)))) nilM)))] (eV 13)))) (consM (eV 7) nilM))))))
  (retM (ret (.bl false)))
  (ret .nx))))))))))))))
  (retM (ret (.bl true)))))
noncomputable def F_law (p1 p2 p3 p4 : FnKey) : Fun := defF 14 (B_law p1 p2 p3 p4)
set_option maxHeartbeats 64000000 in
theorem ok_law (T : Txt K mg) (Df : Defs K) (TB : LamX.TabB base mg (He.cT K ("law", none)).1 (He.cT K ("law", none)).2) {fd : FuncData} (F : FunD K "law" "law" (defArgs s_law) (defBody s_law) (defScope s_law) [] [] (He.fAd K ("law", none)) fd)
    (hF : ∀ (p1 p2 p3 p4 : FnKey) (ns : List Int), ns.length ≤ 63 → ∃ h', F_law p1 p2 p3 p4 [.scr (ns.map D.int)] [] = .ok (.bl true) h') : FnOk P w K mg base L2.CX0 7 (He.fAd K ("law", none)) fd ["_law_script"] (spLaw K) := by
  refine law_okF (k := 6) (Tb := lawT K) (Bs := fun b => ∃ p1 p2 p3 p4, b = B_law p1 p2 p3 p4) F sc_law (fun H h => fun p hp => by rw [List.mem_singleton.mp hp]; exact LamX.TabS.nil h) (fun A outer s H E hr => ?_) (fun b hb ns hl => by obtain ⟨p1, p2, p3, p4, rfl⟩ := hb; exact hF p1 p2 p3 p4 ns hl)
  exact ⟨_, ⟨_, _, _, _, rfl⟩, (s_cons (s_set (ps_set (i := 1) sc_law.nd rfl (Or.inr rfl) (v_call (fun _ _ => .nil) (len_app (len_cons len_nil) rfl) (pe_fS (fn_law_start T Df) hr (by decide) (fun σ => passAt takes0 σ) (a_cons (v_var (pv 0)) a_nil)))))
  (s_cons (s_for (ps_for (passes_of rfl) rfl (i_rng1 (pi_range1 rfl T.b_range (a_cons v_int a_nil))) (g_name (pg_name (i := 11) sc_law.nd rfl (Or.inr rfl))) (s_cons (s_setLcD (by decide) (ps_setLc (i := 2) (own := [("_law_k", 12)]) (g := gName 12) rfl sc_law.nd rfl rfl (sw_true rfl rfl rfl (by decide +kernel)) (i_rng1 (pi_range1 rfl T.b_range (a_cons (v_op opA_add s_add v_int (v_call (fun _ _ => .nil) (len_app (len_cons (len_cons len_nil)) rfl) (pe_fS (fn_law_drawn T Df) hr (by decide) (fun σ => passAt takes0 σ) (a_cons (v_var (pv 1)) (a_cons v_int a_nil))))) a_nil))) (blkOk_by (own := [("_law_k", 12)]) (N := ["_law_script", "_law_state", "_law_words", "_law_change", "_law_word", "_law_again", "_law_works", "_law_due_here", "_law_at", "_law_block_here", "_law_odd", "_law_turn", "_law_k", "_law_work"]) (sc := defScope s_law) (by decide +kernel)) (fun _ _ _ _ _ => (pg_name (i := 12) sc_law.nd rfl (Or.inl rfl))) (fun _ _ _ _ _ => ts_nil) (fun _ _ _ _ _ => (v_call (fun _ _ => .nil) (len_app (len_cons (len_cons len_nil)) rfl) (pe_fS (fn_law_drawn T Df) hr (by decide) (fun σ => passAt takes0 σ) (a_cons (v_var (pv 1)) (a_cons (v_ix ix_seq s_ix (v_frz (o_lst (a_cons v_int (a_cons v_int a_nil)))) (v_op op_mod s_mod (v_var (pv 11)) v_int) (fun _ _ => rfl)) a_nil)))))))
  (s_cons (s_set (ps_set (i := 9) sc_law.nd rfl (Or.inr rfl) (v_call (fun _ _ => .nil) (len_app (len_cons len_nil) rfl) (pe_fS (fn_law_block T Df) hr (by decide) (fun σ => passAt takes0 σ) (a_cons (v_var (pv 2)) a_nil)))))
  (s_cons (s_for (ps_for (passes_of rfl) rfl (i_rng1 (pi_range1 rfl T.b_range (a_cons (v_call (fun _ _ => .nil) (len_app (len_cons (len_cons len_nil)) rfl) (pe_fS (fn_law_drawn T Df) hr (by decide) (fun σ => passAt takes0 σ) (a_cons (v_var (pv 1)) (a_cons v_int a_nil)))) a_nil))) (g_name (pg_name (i := 3) sc_law.nd rfl (Or.inl rfl))) (s_one (s_set (ps_set (i := 9) sc_law.nd rfl (Or.inr rfl) (v_call (fun _ _ => .nil) (len_app (len_cons (len_cons (len_cons len_nil))) rfl) (pe_fS (fn_law_flipped T Df) hr (by decide) (fun σ => passAt takes0 σ) (a_cons (v_var (pv 9)) (a_cons (v_call (fun _ _ => .nil) (len_app (len_cons (len_cons len_nil)) rfl) (pe_fS (fn_law_drawn T Df) hr (by decide) (fun σ => passAt takes0 σ) (a_cons (v_var (pv 1)) (a_cons (v_b s_len (pe_callB call_len rfl T.b_len (by decide +kernel) (a_cons (v_var (pv 9)) a_nil))) a_nil)))) (a_cons (v_call (fun _ _ => .nil) (len_app (len_cons (len_cons len_nil)) rfl) (pe_fS (fn_law_drawn T Df) hr (by decide) (fun σ => passAt takes0 σ) (a_cons (v_var (pv 1)) (a_cons v_int a_nil)))) a_nil))))))))))
  (s_cons (s_if (v_tcmp (opA_eq hr.units) s_eq (v_call (fun _ _ => .nil) (len_app (len_cons (len_cons len_nil)) rfl) (pe_fS (fn_law_drawn T Df) hr (by decide) (fun σ => passAt takes0 σ) (a_cons (v_var (pv 1)) (a_cons v_int a_nil)))) v_int (nomark _)) (s_cons (s_set (ps_set (i := 4) sc_law.nd rfl (Or.inl rfl) (v_call (fun _ _ => .nil) (len_app (len_cons (len_cons len_nil)) rfl) (pe_fS (fn_law_drawn T Df) hr (by decide) (fun σ => passAt takes0 σ) (a_cons (v_var (pv 1)) (a_cons (v_b s_len (pe_callB call_len rfl T.b_len (by decide +kernel) (a_cons (v_var (pv 2)) a_nil))) a_nil))))))
  (s_cons (s_set (ps_set (i := 9) sc_law.nd rfl (Or.inr rfl) (v_call (fun _ _ => .nil) (len_app (len_cons (len_cons (len_cons len_nil))) rfl) (pe_fS (fn_law_flipped T Df) hr (by decide) (fun σ => passAt takes0 σ) (a_cons (v_call (fun _ _ => .nil) (len_app (len_cons len_nil) rfl) (pe_fS (fn_law_block T Df) hr (by decide) (fun σ => passAt takes0 σ) (a_cons (v_var (pv 2)) a_nil))) (a_cons (v_var (pv 4)) (a_cons (v_call (fun _ _ => .nil) (len_app (len_cons (len_cons len_nil)) rfl) (pe_fS (fn_law_drawn T Df) hr (by decide) (fun σ => passAt takes0 σ) (a_cons (v_var (pv 1)) (a_cons v_int a_nil)))) a_nil)))))))
  (s_cons (s_set (ps_set (i := 9) sc_law.nd rfl (Or.inr rfl) (v_call (fun _ _ => .nil) (len_app (len_cons (len_cons (len_cons len_nil))) rfl) (pe_fS (fn_law_flipped T Df) hr (by decide) (fun σ => passAt takes0 σ) (a_cons (v_var (pv 9)) (a_cons (v_op opA_add s_add (v_b s_len (pe_callB call_len rfl T.b_len (by decide +kernel) (a_cons (v_var (pv 2)) a_nil))) v_int) (a_cons (v_var (pv 4)) a_nil)))))))
  (s_one (s_set (ps_set (i := 9) sc_law.nd rfl (Or.inr rfl) (v_call (fun _ _ => .nil) (len_app (len_cons (len_cons (len_cons len_nil))) rfl) (pe_fS (fn_law_flipped T Df) hr (by decide) (fun σ => passAt takes0 σ) (a_cons (v_var (pv 9)) (a_cons (v_op opA_add s_add (v_b s_len (pe_callB call_len rfl T.b_len (by decide +kernel) (a_cons (v_var (pv 2)) a_nil))) v_int) (a_cons (v_op op_sub s_sub v_int (v_call (fun _ _ => .nil) (len_app (len_cons (len_cons len_nil)) rfl) (pe_fS (fn_law_drawn T Df) hr (by decide) (fun σ => passAt takes0 σ) (a_cons (v_var (pv 1)) (a_cons (v_op op_sub s_sub v_int (v_var (pv 4))) a_nil))))) a_nil))))))))))) s_nil)
  (s_cons (s_if (v_tcmp (opA_eq hr.units) s_eq (v_call (fun _ _ => .nil) (len_app (len_cons (len_cons len_nil)) rfl) (pe_fS (fn_law_drawn T Df) hr (by decide) (fun σ => passAt takes0 σ) (a_cons (v_var (pv 1)) (a_cons v_int a_nil)))) v_int (nomark _)) (s_one (s_set (ps_set (i := 9) sc_law.nd rfl (Or.inr rfl) (v_b s_tuple (pe_callTy call_tuple_of rfl T.b_tuple (by decide +kernel) (a_cons (v_drop (v_lc (by decide) (pe_lc (own := [("_law_k", 12)]) (g := gName 12) rfl sc_law.nd  (i_rng1 (pi_range1 rfl T.b_range (a_cons (v_op opA_add s_add v_int (v_call (fun _ _ => .nil) (len_app (len_cons (len_cons len_nil)) rfl) (pe_fS (fn_law_drawn T Df) hr (by decide) (fun σ => passAt takes0 σ) (a_cons (v_var (pv 1)) (a_cons v_int a_nil))))) a_nil))) (blkOk_by (own := [("_law_k", 12)]) (N := ["_law_script", "_law_state", "_law_words", "_law_change", "_law_word", "_law_again", "_law_works", "_law_due_here", "_law_at", "_law_block_here", "_law_odd", "_law_turn", "_law_k", "_law_work"]) (sc := defScope s_law) (by decide +kernel)) (fun _ _ _ _ _ => (pg_name (i := 12) sc_law.nd rfl (Or.inl rfl))) (fun _ _ _ _ _ => ts_nil) (fun _ _ _ _ _ => (v_call (fun _ _ => .nil) (len_app (len_cons (len_cons len_nil)) rfl) (pe_fS (fn_law_drawn T Df) hr (by decide) (fun σ => passAt takes0 σ) (a_cons (v_var (pv 1)) (a_cons v_int a_nil)))))))) a_nil)))))) s_nil)
  (s_cons (s_for (ps_for (passes_of rfl) rfl (i_rng1 (pi_range1 rfl T.b_range (a_cons v_int a_nil))) (g_name (pg_name (i := 5) sc_law.nd rfl (Or.inl rfl))) (s_one (s_if (t_not (v_test (v_call (fun _ _ => .nil) (len_app (len_cons (len_cons len_nil)) rfl) (pe_fS (fnv_law_same T Df) hr (by decide) (fun σ => pass0S σ) (a_cons (v_kind (pe_kind (k := 4) T Df TB rfl rfl hr (by decide) (LamX.lamS_by (sc := defScope s_law) (by decide +kernel)) rfl (fun _ _ _ _ _ => rfl) (fun _ _ _ _ _ _ _ hrL => (v_call (fun _ _ => .nil) (len_app (len_cons len_nil) rfl) (pe_fS (fn_mended T Df) hrL (by decide) (fun σ => passAt (takes_of rfl rfl rfl rfl) σ) (a_cons (v_var (pv 9)) a_nil)))))) (a_cons (v_call (fun _ _ => .nil) (len_app (len_cons len_nil) rfl) (pe_fS (fn_law_due T Df) hr (by decide) (fun σ => passAt takes0 σ) (a_cons (v_var (pv 9)) a_nil))) a_nil)))))) (s_one (s_ret v_bl)) s_nil))))
  (s_cons (s_set (ps_set (i := 8) sc_law.nd rfl (Or.inr rfl) (v_call (fun _ _ => .nil) (len_app (len_cons (len_cons len_nil)) rfl) (pe_fS (fn_law_drawn T Df) hr (by decide) (fun σ => passAt takes0 σ) (a_cons (v_var (pv 1)) (a_cons (v_op opA_add s_add (v_b s_len (pe_callB call_len rfl T.b_len (by decide +kernel) (a_cons (v_var (pv 9)) a_nil))) v_int) a_nil))))))
  (s_cons (s_set (ps_set (i := 10) sc_law.nd rfl (Or.inr rfl) (v_ix ix_seq s_ix (v_frz (o_lst (a_cons v_int (a_cons (v_op op_sub s_sub v_int v_int) (a_cons (v_op op_pow s_pow v_int v_int) a_nil))))) (v_call (fun _ _ => .nil) (len_app (len_cons (len_cons len_nil)) rfl) (pe_fS (fn_law_drawn T Df) hr (by decide) (fun σ => passAt takes0 σ) (a_cons (v_var (pv 1)) (a_cons v_int a_nil)))) (fun _ _ => rfl))))
  (s_cons (s_set (ps_set (i := 6) sc_law.nd rfl (Or.inl rfl) (v_frz (o_lst (a_cons (v_lam0 (kk := 0) TB rfl (List.mem_singleton.mpr rfl) (fun p hp _ => congrArg Prod.snd (List.mem_singleton.mp hp)) (LamX.lamS_by (sc := defScope s_law) (by decide +kernel)) rfl) (a_cons (v_lam1 (kk := 1) (b0 := "_law_a") TB rfl (List.mem_singleton.mpr rfl) (fun p hp _ => congrArg Prod.snd (List.mem_singleton.mp hp)) (LamY.lamP_by (N := ["_law_script", "_law_state", "_law_words", "_law_change", "_law_word", "_law_again", "_law_works", "_law_due_here", "_law_at", "_law_block_here", "_law_odd", "_law_turn", "_law_k", "_law_work"]) (sc := defScope s_law) (by decide +kernel)) rfl rfl) a_nil))))))
  (s_cons (s_set (ps_set (i := 6) sc_law.nd rfl (Or.inl rfl) (v_op opA_add s_add (v_var (pv 6)) (v_frz (o_lst (a_cons (v_lam1 (kk := 2) (b0 := "_law_b") TB rfl (List.mem_singleton.mpr rfl) (fun p hp _ => congrArg Prod.snd (List.mem_singleton.mp hp)) (LamY.lamP_by (N := ["_law_script", "_law_state", "_law_words", "_law_change", "_law_word", "_law_again", "_law_works", "_law_due_here", "_law_at", "_law_block_here", "_law_odd", "_law_turn", "_law_k", "_law_work"]) (sc := defScope s_law) (by decide +kernel)) rfl rfl) (a_cons (v_lam1 (kk := 3) (b0 := "_law_c") TB rfl (List.mem_singleton.mpr rfl) (fun p hp _ => congrArg Prod.snd (List.mem_singleton.mp hp)) (LamY.lamP_by (N := ["_law_script", "_law_state", "_law_words", "_law_change", "_law_word", "_law_again", "_law_works", "_law_due_here", "_law_at", "_law_block_here", "_law_odd", "_law_turn", "_law_k", "_law_work"]) (sc := defScope s_law) (by decide +kernel)) rfl rfl) a_nil)))))))
  (s_cons (s_set (ps_set (i := 7) sc_law.nd rfl (Or.inl rfl) (v_frz (o_lst (a_cons (v_tup (a_cons v_str (a_cons (v_var (pv 8)) a_nil))) (a_cons (v_tup (a_cons v_str (a_cons v_int a_nil))) (a_cons (v_tup (a_cons v_str (a_cons (v_op op_mod s_mod (v_var (pv 11)) v_int) a_nil))) (a_cons (v_tup (a_cons v_str (a_cons v_int a_nil))) a_nil))))))))
  (s_one (s_if (PW.pt (w_and (v_tcmp op_lt s_lt (v_var (pv 8)) v_int (nomark _)) (w_and1 (t_not (v_test (v_call (fun _ _ => .nil) (len_app (len_cons (len_cons len_nil)) rfl) (pe_fS (fnv_law_same T Df) hr (by decide) (fun σ => pass0S σ) (a_cons (v_drop (v_lc (by decide) (pe_seenC (own := [("_law_work", 13)]) (g := gName 13) rfl sc_law.nd  (i_seq (pi_seq (v_var (pv 6)))) (blkOk_by (own := [("_law_work", 13)]) (N := ["_law_script", "_law_state", "_law_words", "_law_change", "_law_word", "_law_again", "_law_works", "_law_due_here", "_law_at", "_law_block_here", "_law_odd", "_law_turn", "_law_k", "_law_work"]) (sc := defScope s_law) (by decide +kernel)) (fun _ _ _ _ _ => (pg_name (i := 13) sc_law.nd rfl (Or.inl rfl))) (fun _ _ _ _ _ => ts_nil) (fun _ => (sees_kindF (k := 4) (by exact (lk_cons (lamb0 (LamX.lamS_by (sc := defScope s_law) (by decide +kernel)) (off_by (N := ["_law_script", "_law_state", "_law_words", "_law_change", "_law_word", "_law_again", "_law_works", "_law_due_here", "_law_at", "_law_block_here", "_law_odd", "_law_turn", "_law_k", "_law_work"]) (vs := [13]) (by decide +kernel)) (fun _ _ _ _ _ _ => rfl) (fun _ _ _ _ _ _ _ hrL => (v_call (fun _ _ => .nil) (len_app (len_cons len_nil) rfl) (pe_fS (fn_mended T Df) hrL (by decide) (fun σ => passAt (takes_of rfl rfl rfl rfl) σ) (a_cons (v_sl rfl (v_op opA_add s_add (v_op opA_add s_add (v_sl rfl (v_var (pv 9)) p_none (p_some (v_var (pv 8)))) (v_tup (a_cons (v_var (pv 10)) a_nil))) (v_sl rfl (v_var (pv 9)) (p_some (v_var (pv 8))) p_none)) p_none (p_some v_int)) a_nil))))) (lk_cons (lamb1 (b0 := "_law_a") (LamY.lamP_by (N := ["_law_script", "_law_state", "_law_words", "_law_change", "_law_word", "_law_again", "_law_works", "_law_due_here", "_law_at", "_law_block_here", "_law_odd", "_law_turn", "_law_k", "_law_work"]) (sc := defScope s_law) (by decide +kernel)) (off_by (N := ["_law_script", "_law_state", "_law_words", "_law_change", "_law_word", "_law_again", "_law_works", "_law_due_here", "_law_at", "_law_block_here", "_law_odd", "_law_turn", "_law_k", "_law_work"]) (vs := [13]) (by decide +kernel)) (fun _ _ _ _ _ _ _ _ => ⟨_, rfl, rfl⟩) (fun _ _ _ _ _ _ _ hrL => (v_call (fun _ _ => .nil) (len_app (len_cons len_nil) rfl) (pe_fS (fn_mended T Df) hrL (by decide) (fun σ => passAt (takes_of rfl rfl rfl rfl) σ) (a_cons (v_op opA_mul s_mul (v_tup (a_cons v_int a_nil)) v_int) a_nil))))) (lk_cons (lamb1 (b0 := "_law_b") (LamY.lamP_by (N := ["_law_script", "_law_state", "_law_words", "_law_change", "_law_word", "_law_again", "_law_works", "_law_due_here", "_law_at", "_law_block_here", "_law_odd", "_law_turn", "_law_k", "_law_work"]) (sc := defScope s_law) (by decide +kernel)) (off_by (N := ["_law_script", "_law_state", "_law_words", "_law_change", "_law_word", "_law_again", "_law_works", "_law_due_here", "_law_at", "_law_block_here", "_law_odd", "_law_turn", "_law_k", "_law_work"]) (vs := [13]) (by decide +kernel)) (fun _ _ _ _ _ _ _ _ => ⟨_, rfl, rfl⟩) (fun _ _ _ _ _ _ _ hrL => (v_call (fun _ _ => .nil) (len_app (len_cons len_nil) rfl) (pe_fS (fn_mended T Df) hrL (by decide) (fun σ => passAt (takes_of rfl rfl rfl rfl) σ) (a_cons (v_sl rfl (v_tup (a_cons v_int (a_cons v_int a_nil))) p_none (p_some (v_op op_mod s_mod (v_var (pv 11)) v_int))) a_nil))))) (lk_cons (lamb1 (b0 := "_law_c") (LamY.lamP_by (N := ["_law_script", "_law_state", "_law_words", "_law_change", "_law_word", "_law_again", "_law_works", "_law_due_here", "_law_at", "_law_block_here", "_law_odd", "_law_turn", "_law_k", "_law_work"]) (sc := defScope s_law) (by decide +kernel)) (off_by (N := ["_law_script", "_law_state", "_law_words", "_law_change", "_law_word", "_law_again", "_law_works", "_law_due_here", "_law_at", "_law_block_here", "_law_odd", "_law_turn", "_law_k", "_law_work"]) (vs := [13]) (by decide +kernel)) (fun _ _ _ _ _ _ _ _ => ⟨_, rfl, rfl⟩) (fun _ _ _ _ _ _ _ hrL => (v_call (fun _ _ => .nil) (len_app (len_cons len_nil) rfl) (pe_fS (fn_mended T Df) hrL (by decide) (fun σ => passAt (takes_of rfl rfl rfl rfl) σ) (a_cons (v_op opA_mul s_mul (v_frz (o_lst (a_cons v_int a_nil))) v_int) a_nil))))) lk_nil))))) (sees_kind T Df hr (by decide) (fun _ _ _ _ _ => (v_var (pv 13))) (fun _ _ _ _ _ => rfl))))))) (a_cons (v_var (pv 7)) a_nil))))))))) (s_one (s_ret v_bl)) s_nil)))))))))))))))
  (s_one (s_ret v_bl))))⟩
end
end Lk26
set_option Elab.async false
set_option linter.all false
set_option maxRecDepth 100000
set_option maxHeartbeats 4000000
set_option autoImplicit false
namespace Fv
open PySem PySem.Spec PyProof.Rows L2 Bm
section
variable {K : PySem.W.Frag} {G H : Hp} {ι : List Addr} {h : List Ob}
end
section
variable {X : Cx} {C : Ct} {e : Expr}
def rDUpd : V → List V → Hp → VK → Prop := fun x vs H Q => ∃ a b kvs more, x = .ref a ∧ vs = [.ref b] ∧ a ≠ b ∧ H a = some (.dK kvs) ∧ H b = some (.dK more) ∧ kvs.length + more.length ≤ sizeLine ∧ Q .non (upd H a (.dK (mergeK kvs more)))
/-- d.update(d2) -/
def isRef (j : Nat) : D → Bool
  | .ref i => decide (i = j)
  | _ => false
def updE (h : List Ob) (x y : D) : Option (List Ob) := match x with
  | .ref j => if isRef j y = true then none else match h[j]?, dicOf h y with
    | some (.dic ks ds), some (ks2, ds2) => if ks.length + ks2.length ≤ 1000000 ∧ ks.Nodup then some (h.set j (.dic (mergeD ks2 ds2 (ks, ds)).1 (mergeD ks2 ds2 (ks, ds)).2)) else none
    | _, _ => none
  | _ => none
def updM (fo : M D) (fa : M (List D)) : M D := bnd fo fun x => bnd (fun e => match x with
    | .ref k => match e.h[k]? with
      | some (.dic _ _) => .ok () e
      | _ => .stuck
    | _ => .stuck : M Unit) fun _ => bnd fa fun ds e => match ds with
  | [y] => match updE e.h x y with
    | some h' => .ok .non ⟨e.ρ, h'⟩
    | none => .stuck
  | _ => .stuck
end
section
variable {K : PySem.W.Frag}
/-- dict(xs) of pairs -/
def pairsOf : List D → Option (List Key × List D)
  | [] => some ([], [])
  | .tup [k, v] :: r => match keyD k, pairsOf r with
    | some k, some (ks, ds) => some (k :: ks, v :: ds)
    | _, _ => none
  | _ :: _ => none
def dictP (h : List Ob) : List D → Option Ob
  | [d] => match dicOf h d with
    | some (ks, ds) => some (.dic ks ds)
    | none => match lsqOf h d with
      | some xs => match pairsOf xs with
        | some (ks, ds) => some (.dic (mergeD ks ds ([], [])).1 (mergeD ks ds ([], [])).2)
        | none => none
      | none => none
  | _ => none
def rDictA (K : PySem.W.Frag) : List V → Hp → VK → Prop := fun xs H Q => (∃ (a : Addr) (kvs : List (Key × V)), xs = [.ref a] ∧ H a = some (.dK kvs) ∧ ∀ p, H p = none → Q (.ref p) (upd H p (.dK kvs))) ∨
  ∃ (a : Addr) (ps : List Addr) (kvs : List (Key × V)), xs = [.ref a] ∧ SqL K H a (ps.map V.ref) ∧ Paired (fun p kv => SqT K H p [kV kv.1, kv.2]) ps kvs ∧ ∀ p, H p = none → Q (.ref p) (upd H p (.dK (mergeK [] kvs)))
/-- max(xs), min(xs) -/
def maxI : List Int → Option Int
  | [] => none
  | [x] => some x
  | x :: xs => (maxI xs).map fun y => if x < y then y else x
def minI : List Int → Option Int
  | [] => none
  | [x] => some x
  | x :: xs => (minI xs).map fun y => if y < x then y else x
def maxL (h : List Ob) : List D → Option D
  | [d] => match lsqOf h d with
    | some xs => match intsOf xs with
      | some ns => (maxI ns).map .int
      | none => none
    | none => none
  | _ => none
def minL (h : List Ob) : List D → Option D
  | [d] => match lsqOf h d with
    | some xs => match intsOf xs with
      | some ns => (minI ns).map .int
      | none => none
    | none => none
  | _ => none
end
end Fv
set_option Elab.async false
set_option linter.all false
set_option maxRecDepth 100000
set_option maxHeartbeats 4000000
set_option autoImplicit false
namespace Fv
open PySem PySem.Spec PyProof.Rows L2 Bm
section
variable {h t : List Ob} {o : Ob}
@[simp] theorem at_off (i : Nat) : (h ++ t)[h.length + i]? = t[i]? := by
  rw [List.getElem?_append_right (Nat.le_add_right _ _), Nat.add_sub_cancel_left]
@[simp] theorem at_off0 : (h ++ t)[h.length]? = t[0]? := at_off 0
@[simp] theorem set_off (i : Nat) : (h ++ t).set (h.length + i) o = h ++ t.set i o := by
  rw [List.set_append_right _ _ (Nat.le_add_right _ _), Nat.add_sub_cancel_left]
@[simp] theorem set_off0 : (h ++ t).set h.length o = h ++ t.set 0 o := set_off 0
@[simp] theorem x_o2' (g : List Ob → D → D → Option Ob) (fa fb : M D) (e : En) : o2 g fa fb e = bnd fa (fun x => bnd fb fun y => lft fun h => g h x y) e := rfl
@[simp] theorem x_updM (fo : M D) (fa : M (List D)) (e : En) : updM fo fa e = bnd fo (fun x => bnd (fun e => match x with
    | .ref k => match e.h[k]? with
      | some (.dic _ _) => .ok () e
      | _ => .stuck
    | _ => .stuck : M Unit) fun _ => bnd fa fun ds e => match ds with
  | [y] => match updE e.h x y with
    | some h' => .ok .non ⟨e.ρ, h'⟩
    | none => .stuck
  | _ => .stuck) e := rfl
@[simp] theorem x_dget2M (fd fy fx : M D) (e : En) : dget2M fd fy fx e = bnd fd (fun x => bnd (lft fun h => dicOf h x) fun _ => bnd fy fun y => bnd fx fun z => lft fun h => match dicOf h x, keyD y with
  | some (ks, ds), some k => some ((valD k ks ds).getD z)
  | _, _ => none) e := rfl
@[simp] theorem x_augF (cs : List Str) (f : Str) (g : List Ob → D → D → Option D) (fo fv : M D) (e : En) : augF cs f g fo fv e = bnd fo (fun x => bnd (lft fun h => match insOf h x with
  | some (c', fs) => if c' ∈ cs then (fs.lookup f).map fun d => (c', d) else none
  | none => none) fun a => bnd fv fun b => bnd (lft fun h => g h a.2 b) fun d e => match setFld e.h [a.1] f x d with
  | some h' => .ok .nx ⟨e.ρ, h'⟩
  | none => .stuck) e := rfl
@[simp] theorem x_setFldr (cs : List Str) (f : Str) (k : Nat) (d : D) : setFld h cs f (.ref k) d = (match h[k]? with
  | some (.ins c fs) => if c ∈ cs ∧ fs.length < 100 then some (h.set k (.ins c (putFD f d fs))) else none
  | _ => none) := rfl
@[simp] theorem x_dicr (k : Nat) : dicOf h (.ref k) = (match h[k]? with
  | some (.dic ks ds) => some (ks, ds)
  | _ => none) := rfl
@[simp] theorem x_dicd (ks : List Key) (ds : List D) : dicOf h (.dic ks ds) = some (ks, ds) := rfl
@[simp] theorem x_keyi (i : Int) : keyD (.int i) = some (.inl i) := rfl
@[simp] theorem x_keys (i : Str) : keyD (.str i) = some (.inr i) := rfl
theorem dget_of (x : D) (y : D) : dgetD h x y = (match dicOf h x, keyD y with
  | some (ks, ds), some k => valD k ks ds
  | _, _ => none) := by
  unfold dgetD
  cases dicOf h x <;> cases keyD y <;> rfl
@[simp] theorem x_dgetr (k : Nat) (s : Str) : dgetD h (.ref k) (.str s) = (match h[k]? with
  | some (.dic ks ds) => valD (.inr s) ks ds
  | _ => none) := by
  rw [dget_of, x_dicr]
  cases h[k]? with
  | none => rfl
  | some o => cases o <;> rfl
@[simp] theorem x_updEd (j : Nat) (ks2 : List Key) (ds2 : List D) : updE h (.ref j) (.dic ks2 ds2) = (match h[j]? with
    | some (.dic ks ds) => if ks.length + ks2.length ≤ 1000000 ∧ ks.Nodup then some (h.set j (.dic (mergeD ks2 ds2 (ks, ds)).1 (mergeD ks2 ds2 (ks, ds)).2)) else none
    | _ => none) := by
  unfold updE
  simp only [isRef, Bool.false_eq_true, if_false, x_dicd]
  split
  · rename_i ks ds ks2' ds2' h1 h2
    cases h2
    rw [h1]
  · rename_i hh
    split
    · rename_i ks ds h1
      exact absurd rfl (hh ks ds ks2 ds2 h1)
    · rfl
@[simp] theorem x_dputr (j : Nat) (s : Str) (v : D) : dputE h (.ref j) (.str s) v = (match h[j]? with
    | some (.dic ks ds) => if ks.length < 1000000 ∧ ks.Nodup then some (h.set j (.dic (putD (.inr s) v ks ds).1 (putD (.inr s) v ks ds).2)) else none
    | _ => none) := rfl
@[simp] theorem x_pairs0 (e : En) : pairsM [] e = .ok [] e := rfl
@[simp] theorem x_pairs1 (f g : M D) (r : List (M D × M D)) (e : En) : pairsM ((f, g) :: r) e = bnd f (fun x => bnd g fun y => bnd (pairsM r) fun ps => Fv.ret ((x, y) :: ps)) e := rfl
@[simp] theorem x_mD0 (ks : List Key) (ds : List D) : mergeD [] ds (ks, ds) = (ks, ds) := rfl
@[simp] theorem x_mD1 (k : Key) (ks : List Key) (d : D) (ds : List D) (acc : List Key × List D) : mergeD (k :: ks) (d :: ds) acc = mergeD ks ds (putD k d acc.1 acc.2) := rfl
@[simp] theorem x_mD2 (acc : List Key × List D) : mergeD [] [] acc = acc := rfl
@[simp] theorem x_pD0 (k : Key) (x : D) : putD k x [] [] = ([k], [x]) := rfl
@[simp] theorem x_pD1 (k j : Key) (x d : D) (ks : List Key) (ds : List D) : putD k x (j :: ks) (d :: ds) = if j = k then (j :: ks, x :: ds) else ((j :: (putD k x ks ds).1), (d :: (putD k x ks ds).2)) := rfl
@[simp] theorem x_keysD0 : keysD [] = some [] := rfl
@[simp] theorem x_keysD1 (s : Str) (y : D) (r : List (D × D)) : keysD ((.str s, y) :: r) = (keysD r).map (.inr s :: ·) := by
  show (match keyD (.str s), keysD r with
    | some k, some ks => some (k :: ks)
    | _, _ => none) = _
  cases keysD r <;> rfl
end
/-- a display that is dropped: what it holds -/
noncomputable def dropX (fps : List (M D × M D)) (e : En) : Res D := dropM (dispM fps) e
theorem drop_disp {fps : List (M D × M D)} {e : En} {ps : List (D × D)} {ks : List Key} (hp : pairsM fps ⟨e.ρ, e.h ++ [.dic [] []]⟩ = .ok ps ⟨e.ρ, e.h ++ [.dic [] []]⟩) (hk : keysD ps = some ks) (nd : ks.Nodup ∧ ks.length ≤ 15) (lo : lows 0 (ps.map (·.2)) = true) :
    dropM (dispM fps) e = .ok (.dic ks (ps.map (·.2))) e := by
  refine drop_ok (t := [.dic ks (ps.map (·.2))]) (d := .ref e.h.length) ?_ ?_
  · unfold dispM
    rw [hp]
    dsimp only
    rw [hk]
    simp [nd]
  · show fzW _ _ _ _ = _
    simp only [fzW, Nat.lt_irrefl, if_false, at_new0]
    rw [mapO_low (lows_zero lo)]
    rfl
open Classical in
@[simp] theorem x_dropdisp (fps : List (M D × M D)) (e : En) : dropM (dispM fps) e = (match pairsM fps ⟨e.ρ, e.h ++ [.dic [] []]⟩ with
  | .ok ps e' => if e' = ⟨e.ρ, e.h ++ [.dic [] []]⟩ ∧ lows 0 (ps.map (·.2)) = true then (match keysD ps with
    | some ks => if ks.Nodup ∧ ks.length ≤ 15 then .ok (.dic ks (ps.map (·.2))) e else dropX fps e
    | none => dropX fps e) else dropX fps e
  | _ => dropX fps e) := by
  split
  · rename_i ps e' hp
    split
    · rename_i c
      obtain ⟨rfl, lo⟩ := c
      split
      · rename_i ks hk
        split
        · rename_i nd
          exact drop_disp hp hk nd lo
        · rfl
      · rfl
    · rfl
  · rfl
end Fv
set_option Elab.async false
set_option linter.all false
set_option maxRecDepth 100000
set_option maxHeartbeats 4000000
set_option autoImplicit false
namespace Bm
def bsum (f : Nat → Bool) : Nat → Nat
  | 0 => 0
  | n + 1 => bsum f n + 2 ^ n * (f n).toNat
theorem bsum_lt (f : Nat → Bool) : ∀ n, bsum f n < 2 ^ n
  | 0 => by show 0 < 1; decide
  | n + 1 => by
    have h := bsum_lt f n
    have hp : (2 : Nat) ^ (n + 1) = 2 ^ n * 2 := Nat.pow_succ ..
    show bsum f n + 2 ^ n * (f n).toNat < _
    cases f n
    · simp only [Bool.toNat_false, Nat.mul_zero]; omega
    · simp only [Bool.toNat_true, Nat.mul_one]; omega
theorem bsum_bit (f : Nat → Bool) (k : Nat) : ∀ n, (bsum f n).testBit k = (decide (k < n) && f k)
  | 0 => by simp [bsum]
  | n + 1 => by
    have h := bsum_bit f k n
    have hl := bsum_lt f n
    show (bsum f n + 2 ^ n * (f n).toNat).testBit k = _
    rw [Nat.add_comm, Nat.testBit_two_pow_mul_add _ hl]
    by_cases hk : k < n
    · rw [if_pos hk, h]
      simp [hk, Nat.lt_succ_of_lt hk]
    · rw [if_neg hk]
      by_cases he : k = n
      · subst he
        cases hf : f k <;> simp
      · have h1 : ¬ k < n + 1 := by omega
        have h2 : k - n ≠ 0 := by omega
        have h3 : Nat.testBit 1 (k - n) = false := Nat.testBit_lt_two_pow (Nat.one_lt_two_pow h2)
        cases f n <;> simp [h1, h3]
theorem bsum_congr {f g : Nat → Bool} : ∀ {n : Nat}, (∀ k, k < n → f k = g k) → bsum f n = bsum g n
  | 0, _ => rfl
  | n + 1, h => by
    show bsum f n + 2 ^ n * (f n).toNat = bsum g n + 2 ^ n * (g n).toNat
    rw [bsum_congr fun k hk => h k (Nat.lt_succ_of_lt hk), h n (Nat.lt_succ_self n)]
theorem bsum_self {x n : Nat} (h : x < 2 ^ n) : bsum (fun k => x.testBit k) n = x := by
  apply Nat.eq_of_testBit_eq
  intro k
  rw [bsum_bit]
  by_cases hk : k < n
  · simp [hk]
  · have h2 : x < 2 ^ k := Nat.lt_of_lt_of_le h (Nat.pow_le_pow_right (by decide) (by omega))
    simp [hk, Nat.testBit_lt_two_pow h2]
def cols (ws : List Nat) : Nat := ws.foldl (fun a b => a ^^^ b) 0
theorem foldl_xor_bit (k : Nat) : ∀ (ws : List Nat) (a : Nat), (ws.foldl (fun a b => a ^^^ b) a).testBit k = (a.testBit k ^^ (ws.foldr (fun w b => w.testBit k ^^ b) false))
  | [], a => by simp
  | w :: r, a => by
    rw [List.foldl_cons, foldl_xor_bit k r, Nat.testBit_xor, List.foldr_cons, Bool.xor_assoc]
theorem cols_bit (ws : List Nat) (k : Nat) : (cols ws).testBit k = ws.foldr (fun w b => w.testBit k ^^ b) false := by
  unfold cols
  rw [foldl_xor_bit]
  simp
theorem cols_lt {n : Nat} : ∀ {ws : List Nat} {a : Nat}, (∀ w ∈ ws, w < 2 ^ n) → a < 2 ^ n → ws.foldl (fun a b => a ^^^ b) a < 2 ^ n
  | [], a, _, ha => ha
  | w :: r, a, h, ha => cols_lt (ws := r) (fun x hx => h x (List.mem_cons_of_mem _ hx)) (Nat.xor_lt_two_pow ha (h w List.mem_cons_self))
/-- the law's sum of bits -/
def bitcount (k : Nat) (ws : List Nat) : Nat := (ws.map fun w => w / 2 ^ k % 2).sum
theorem bitcount_mod (k : Nat) : ∀ ws : List Nat, bitcount k ws % 2 = (ws.foldr (fun w b => w.testBit k ^^ b) false).toNat
  | [] => rfl
  | w :: r => by
    have ih := bitcount_mod k r
    show (w / 2 ^ k % 2 + bitcount k r) % 2 = (w.testBit k ^^ _).toNat
    have hb : w / 2 ^ k % 2 = (w.testBit k).toNat := by
      rw [Nat.testBit_eq_decide_div_mod_eq]
      rcases Nat.mod_two_eq_zero_or_one (w / 2 ^ k) with h | h <;> rw [h] <;> rfl
    rw [hb, Nat.add_mod, ih]
    cases w.testBit k <;> cases (r.foldr (fun w b => w.testBit k ^^ b) false) <;> rfl
theorem law_cols {ws : List Nat} (h : ∀ w ∈ ws, w < 65536) : bsum (fun k => decide (bitcount k ws % 2 = 1)) 16 = cols ws := by
  have hl : cols ws < 2 ^ 16 := cols_lt (fun w hw => h w hw) (by decide)
  rw [← bsum_self hl]
  refine bsum_congr fun k _ => ?_
  rw [bitcount_mod, cols_bit]
  cases (ws.foldr (fun w b => w.testBit k ^^ b) false) <;> rfl
def marksA : List Nat → Nat → Nat → Nat
  | [], _, acc => acc
  | w :: r, i, acc => marksA r (i + 1) (acc ||| (oddB w).toNat * 2 ^ i)
def marks (ws : List Nat) : Nat := marksA ws 0 0 ||| (oddB (cols ws)).toNat * 2 ^ 14
theorem bit_shl (b : Bool) (i k : Nat) : (b.toNat * 2 ^ i).testBit k = (decide (k = i) && b) := by
  cases b
  · simp
  · rw [Bool.toNat_true, Nat.one_mul, Nat.testBit_two_pow]
    by_cases h : k = i
    · simp [h]
    · have h2 : ¬ i = k := fun z => h z.symm
      simp [h, h2]
theorem marksA_bit (k : Nat) : ∀ (ws : List Nat) (i acc : Nat), (marksA ws i acc).testBit k = (acc.testBit k || (decide (i ≤ k) && ((ws[k - i]?).map oddB).getD false))
  | [], i, acc => by simp [marksA]
  | w :: r, i, acc => by
    show (marksA r (i + 1) (acc ||| (oddB w).toNat * 2 ^ i)).testBit k = _
    rw [marksA_bit k r, Nat.testBit_or, bit_shl]
    by_cases h1 : k = i
    · subst h1
      have h2 : ¬ k + 1 ≤ k := by omega
      simp [h2]
    · by_cases h3 : i ≤ k
      · have h4 : i + 1 ≤ k := by omega
        have h5 : k - i = (k - (i + 1)) + 1 := by omega
        rw [h5]
        simp [h1, h3, h4]
      · have h4 : ¬ i + 1 ≤ k := by omega
        simp [h1, h3, h4]
theorem law_marks {ws : List Nat} (h : ws.length ≤ 14) : bsum (fun k => ((ws[k]?).map oddB).getD false) 14 + 2 ^ 14 * (oddB (cols ws)).toNat = marks ws := by
  have e : bsum (fun k => ((ws[k]?).map oddB).getD false) 14 + 2 ^ 14 * (oddB (cols ws)).toNat = bsum (fun k => if k = 14 then oddB (cols ws) else ((ws[k]?).map oddB).getD false) 15 := by
    show _ = bsum _ 14 + 2 ^ 14 * (if 14 = 14 then oddB (cols ws) else _).toNat
    rw [if_pos rfl]
    congr 1
  rw [e]
  apply Nat.eq_of_testBit_eq
  intro k
  rw [bsum_bit]
  unfold marks
  rw [Nat.testBit_or, marksA_bit, bit_shl]
  by_cases hk : k = 14
  · subst hk
    have h2 : ws[14]? = none := List.getElem?_eq_none_iff.mpr h
    simp [h2]
  · by_cases hk2 : k < 15
    · simp [hk, hk2]
    · have h2 : ws[k]? = none := List.getElem?_eq_none_iff.mpr (by omega)
      simp [hk, hk2, h2]
end Bm
namespace Bm
open PySem PySem.Spec PyProof.Rows L2
def wsV (ws : List Nat) : List V := ws.map fun n : Nat => V.int ((n : Nat) : Int)
def spCols (K : PySem.W.Frag) : Sp := fun vs H Q _ => ∃ (a : Addr) (ws : List Nat), vs = [.ref a] ∧ SqA K H a (wsV ws) ∧ Q (.int ((cols ws : Nat) : Int)) H
def spMarks (K : PySem.W.Frag) : Sp := fun vs H Q _ => ∃ (a : Addr) (ws : List Nat), vs = [.ref a] ∧ SqA K H a (wsV ws) ∧ ws.length ≤ 1000 ∧ ∀ H', Same H H' → Q (.int ((marks ws : Nat) : Int)) H'
end Bm
namespace Bm
open PySem PySem.Spec PyProof.Rows L2
def rSlAny (K : PySem.W.Frag) : V → Option Int → Option Int → Hp → VK → Prop := fun x lo hi H Q => rSlL K x lo hi H Q ∨ rSlA K x lo hi H Q
theorem sl_any {X : Cx} : SlR X (rSlAny X.K) := sl_list.or sl_tupA
theorem cut_nat {xs : List V} (i j : Nat) : cutV xs (some (i : Int)) (some (j : Int)) = (xs.drop i).take (j - i) := by
  unfold cutV
  rw [HT.sIx_nat, HT.sIx_nat]
  by_cases h : i ≤ xs.length
  · rw [Nat.min_eq_left h]
    by_cases h2 : j ≤ xs.length
    · rw [Nat.min_eq_left h2]
    · rw [Nat.min_eq_right (by omega), List.take_of_length_le (by rw [List.length_drop]; omega), List.take_of_length_le (by rw [List.length_drop]; omega)]
  · have h1 : xs.drop (min i xs.length) = [] := List.drop_eq_nil_iff.mpr (by omega)
    have h2 : xs.drop i = [] := List.drop_eq_nil_iff.mpr (by omega)
    rw [h1, h2]
    simp
theorem cut_to {xs : List V} (j : Nat) : cutV xs none (some (j : Int)) = xs.take j := by
  have e : cutV xs none (some (j : Int)) = cutV xs (some ((0 : Nat) : Int)) (some (j : Int)) := by
    unfold cutV
    simp only [HT.sIx_nat, HT.sIx_none, Nat.zero_min]
  rw [e, cut_nat]
  simp
theorem cut_from {xs : List V} (i : Nat) : cutV xs (some (i : Int)) none = xs.drop i := by
  unfold cutV
  rw [HT.sIx_nat, HT.sIx_none]
  by_cases h : i ≤ xs.length
  · rw [Nat.min_eq_left h]
    exact List.take_of_length_le (by rw [List.length_drop]; omega)
  · have h1 : xs.drop (min i xs.length) = [] := List.drop_eq_nil_iff.mpr (by omega)
    have h2 : xs.drop i = [] := List.drop_eq_nil_iff.mpr (by omega)
    rw [h1, h2]
    simp
end Bm
namespace Bm
open PySem PySem.Spec PyProof.Rows L2
def spBlock (K : PySem.W.Frag) : Sp := fun vs H Q _ => ∃ (a : Addr) (ws : List Nat), vs = [.ref a] ∧ SqA K H a (wsV ws) ∧ ws.length ≤ 1000 ∧ ∀ p H', Same H H' → H' p = some (.tup (wsV (ws ++ [cols ws, marks ws]))) → Q (.ref p) H'
def numsD (ns : List Nat) : List PyData := ns.map fun n : Nat => PyData.int ((n : Nat) : Int)
theorem dpAll_ws {K : PySem.W.Frag} {H : Hp} : ∀ ws : List Nat, DpAll K H (wsV ws) (numsD ws)
  | [] => .nil
  | w :: r => .cons (.int _) (dpAll_ws r)
def blkD (ws : List Nat) : PyData := .tuple (numsD (ws ++ [cols ws, marks ws]))
def chunk (ws : List Nat) (i : Nat) : List Nat := (ws.drop (i * 14)).take 14
def sealD (ws : List Nat) : List PyData := (List.range ((ws.length + 13) / 14)).map fun i => blkD (chunk ws i)
def spSealed (K : PySem.W.Frag) : Sp := fun vs H Q E => ∃ (a : Addr) (xs : List V), vs = [.ref a] ∧ SqA K H a xs ∧ (∀ x ∈ xs, ∃ n, Kd K H x n) ∧ (∀ i, firstBad 200 xs 0 = some i → ExN K "BadImage" (.int (i : Nat)) H E) ∧
  (∀ ws, xs = wsV ws → (∀ w ∈ ws, w < 65536) → ws.length ≤ 200 → ∀ p H' ys, H p = none → Same H H' → H' p = some (.lst ys) → DpAll K H' ys (sealD ws) → Q (.ref p) H')
end Bm
namespace Bm
open PySem PySem.Spec PyProof.Rows L2
def BlkAt (H : Hp) (ws : List Nat) (ys : List V) (i : Nat) : Prop := ys.length = i ∧ ∀ k, k < i → ∃ r, ys[k]? = some (.ref r) ∧ H r = some (.tup (wsV (chunk ws k ++ [cols (chunk ws k), marks (chunk ws k)])))
theorem dpAll_of {K : PySem.W.Frag} {H : Hp} : ∀ {ys : List V} {ds : List PyData}, ys.length = ds.length → (∀ (k : Nat) y d, ys[k]? = some y → ds[k]? = some d → Dp K H y d) → DpAll K H ys ds
  | [], [], _, _ => .nil
  | [], _ :: _, h, _ => by cases h
  | _ :: _, [], h, _ => by cases h
  | y :: ys, d :: ds, h, k => .cons (k 0 y d rfl rfl) (dpAll_of (by simpa using h) fun j y' d' h1 h2 => k (j + 1) y' d' (by simpa using h1) (by simpa using h2))
theorem BlkAt.dp {K : PySem.W.Frag} {H : Hp} {ws : List Nat} {ys : List V} (h : BlkAt H ws ys ((ws.length + 13) / 14)) : DpAll K H ys (sealD ws) := by
  refine dpAll_of (by rw [h.1]; unfold sealD; simp) fun k y d h1 h2 => ?_
  unfold sealD at h2
  rw [List.getElem?_map] at h2
  have hk : k < (ws.length + 13) / 14 := by
    have z := (List.getElem?_eq_some_iff.mp h1).1
    rw [h.1] at z
    exact z
  obtain ⟨r, e1, e2⟩ := h.2 k hk
  rw [e1] at h1
  cases h1
  have h3 : (List.range ((ws.length + 13) / 14))[k]? = some k := by simp [hk]
  rw [h3] at h2
  cases h2
  exact .tup (SqT.of e2) (dpAll_ws _)
end Bm
namespace Bm
open PySem PySem.Spec PyProof.Rows L2
def spNeedB (K : PySem.W.Frag) : Sp := fun vs H Q E => ∃ (a : Addr) (xs : List V), vs = [.ref a] ∧ SqA K H a xs ∧ (∀ x ∈ xs, ∃ n, Kd K H x n) ∧ (∀ i, firstBad 16 xs 0 = some i → ExN K "BadImage" (.int (i : Nat)) H E) ∧
  (firstBad 16 xs 0 = none → xs.length < 3 → ExN K "BadImage" (.int (xs.length : Nat)) H E) ∧ (firstBad 16 xs 0 = none → 3 ≤ xs.length → ∀ H', Same H H' → Q .non H')
/-- the places of the bits that are 1 -/
def bitsOf (n : Nat) : List Nat := (List.range (Builtin.Int.intBits ((n : Nat) : Int))).filter fun k => n.testBit k
def spBits : Sp := fun vs H Q _ => ∃ n : Nat, vs = [.int (n : Int)] ∧ n < 2 ^ 60 ∧ ∀ p H', H p = none → Same H H' → H' p = some (.lst (wsV (bitsOf n))) → Q (.ref p) H'
theorem bits_le {n m : Nat} (h : n < 2 ^ m) : Builtin.Int.intBits ((n : Nat) : Int) ≤ m := PyProof.Rows.intBits_le (by simpa using h)
/-- the rows' marks as the words have them -/
def rowsA : List Nat → Nat → List Nat
  | [], _ => []
  | w :: r, i => (oddB w).toNat * 2 ^ i :: rowsA r (i + 1)
theorem rowsA_len : ∀ (ws : List Nat) (i : Nat), (rowsA ws i).length = ws.length
  | [], _ => rfl
  | w :: r, i => by simp [rowsA, rowsA_len r]
theorem rowsA_get : ∀ {ws : List Nat} {j k n : Nat}, ws[k]? = some n → (rowsA ws j)[k]? = some ((oddB n).toNat * 2 ^ (j + k))
  | [], _, _, _, h => by simp at h
  | w :: r, j, 0, n, h => by
    have e : w = n := by simpa using h
    subst e
    rfl
  | w :: r, j, k + 1, n, h => by
    have h1 := rowsA_get (ws := r) (j := j + 1) (k := k) (n := n) (by simpa using h)
    show (rowsA r (j + 1))[k]? = _
    rw [h1, Nat.add_assoc, Nat.add_comm 1 k]
def rowsW (ws : List Nat) (c : Nat) : Nat := (rowsA ws 0 ++ [(oddB c).toNat * 2 ^ 14]).sum
/-- what mended makes of a block -/
def mendR (b : List Nat) : Option (List Nat × Option (Nat × Nat)) :=
  let many := b.length - 2
  let ws := b.take many
  let cs := bitsOf (cols (b.take (many + 1)))
  let rs := bitsOf (rowsW ws (b.getD many 0) ^^^ b.getD (many + 1) 0)
  if rs = [] ∧ cs = [] then some (ws, none)
  else if rs.length ≠ 1 ∨ 1 < cs.length then none
  else if cs = [] then some (ws, some (many + 1, rs.getD 0 0))
  else if rs.getD 0 0 < many then some (ws.set (rs.getD 0 0) (ws.getD (rs.getD 0 0) 0 ^^^ 1 * 2 ^ cs.getD 0 0), some (rs.getD 0 0, cs.getD 0 0))
  else if rs.getD 0 0 ≠ 14 then none
  else some (ws, some (many, cs.getD 0 0))
def mendD (r : List Nat × Option (Nat × Nat)) : PyData := .tuple [.tuple (numsD r.1), match r.2 with | none => .none | some (i, k) => .tuple [.int (i : Nat), .int (k : Nat)]]
def spMended (K : PySem.W.Frag) : Sp := fun vs H Q E => ∃ (a : Addr) (xs : List V), vs = [.ref a] ∧ SqA K H a xs ∧ (∀ x ∈ xs, ∃ n, Kd K H x n) ∧ (∀ i, firstBad 16 xs 0 = some i → ExN K "BadImage" (.int (i : Nat)) H E) ∧
  (firstBad 16 xs 0 = none → xs.length < 3 → ExN K "BadImage" (.int (xs.length : Nat)) H E) ∧
  (∀ b, xs = wsV b → (∀ w ∈ b, w < 65536) → 3 ≤ b.length → b.length ≤ 16 → mendR b = none → ∀ H', Same H H' → E (.ref (He.ga K "NoMend")) none H') ∧
  (∀ b r, xs = wsV b → (∀ w ∈ b, w < 65536) → 3 ≤ b.length → b.length ≤ 16 → mendR b = some r → ∀ v H', Same H H' → Dp K H' v (mendD r) → Q v H')
end Bm
namespace Bm
open PySem PySem.Spec PyProof.Rows L2
theorem eqv_nil (ns : List Nat) : PyData.eqv (.list (numsD ns)) (.list []) = decide (ns = []) := by
  cases ns with
  | nil => rfl
  | cons n r => rfl
end Bm
namespace Bm
open PySem PySem.Spec PyProof.Rows L2
section
variable {K : PySem.W.Frag} {σ : L2.St} {H : Hp} {i : Nat} {l : Addr} {ns : List Nat}
end
theorem rowsA_sum : ∀ (ws : List Nat) (i : Nat), (rowsA ws i).sum + 2 ^ i ≤ 2 ^ (i + ws.length)
  | [], i => by simp [rowsA]
  | w :: r, i => by
    have h := rowsA_sum r (i + 1)
    have h2 : (oddB w).toNat * 2 ^ i ≤ 2 ^ i := by cases oddB w <;> simp
    show (oddB w).toNat * 2 ^ i + (rowsA r (i + 1)).sum + 2 ^ i ≤ 2 ^ (i + (r.length + 1))
    rw [show i + (r.length + 1) = i + 1 + r.length by omega]
    have h3 : (2 : Nat) ^ (i + 1) = 2 ^ i * 2 := Nat.pow_succ ..
    omega
theorem rowsW_lt {ws : List Nat} {c : Nat} (h : ws.length ≤ 14) : rowsW ws c < 2 ^ 15 := by
  unfold rowsW
  rw [List.sum_append]
  have h1 := rowsA_sum ws 0
  have h2 : (2 : Nat) ^ (0 + ws.length) ≤ 2 ^ 14 := Nat.pow_le_pow_right (by decide) (by omega)
  have h3 : [(oddB c).toNat * 2 ^ 14].sum ≤ 2 ^ 14 := by
    cases oddB c <;> simp
  have h4 : (2 : Nat) ^ 15 = 2 ^ 14 + 2 ^ 14 := by decide
  have h5 : (2 : Nat) ^ 0 = 1 := rfl
  omega
end Bm
namespace Bm
open PySem PySem.Spec PyProof.Rows L2
end Bm
namespace Bm
open PySem PySem.Spec PyProof.Rows L2
def spLOdd : Sp := fun vs H Q _ => ∃ n : Nat, vs = [.int (n : Int)] ∧ Q (.int (((oddB n).toNat : Nat) : Int)) H
def spLBlock (K : PySem.W.Frag) : Sp := fun vs H Q _ => ∃ (a : Addr) (ws : List Nat), vs = [.ref a] ∧ SqL K H a (wsV ws) ∧ ws.length ≤ 14 ∧ (∀ w ∈ ws, w < 65536) ∧ ∀ p H', Same H H' → H' p = some (.tup (wsV (ws ++ [cols ws, marks ws]))) → Q (.ref p) H'
end Bm
namespace Bm
open PySem PySem.Spec PyProof.Rows L2
theorem rowsA_bsum (ws : List Nat) : ∀ n, n ≤ ws.length → ((rowsA ws 0).take n).sum = bsum (fun k => ((ws[k]?).map oddB).getD false) n
  | 0, _ => rfl
  | n + 1, h => by
    have e : ws[n]? = some ws[n] := List.getElem?_eq_getElem h
    rw [List.take_add_one, rowsA_get e, List.sum_append, rowsA_bsum ws n (by omega), Nat.zero_add]
    show _ + [(oddB ws[n]).toNat * 2 ^ n].sum = bsum _ n + 2 ^ n * (((ws[n]?).map oddB).getD false).toNat
    rw [e, Nat.mul_comm (2 ^ n)]
    simp
theorem bsum_more {f : Nat → Bool} {n : Nat} : ∀ {m : Nat}, (∀ k, n ≤ k → f k = false) → n ≤ m → bsum f m = bsum f n
  | 0, _, hm => by
    have e : n = 0 := by omega
    rw [e]
  | m + 1, h, hm => by
    by_cases e : n = m + 1
    · rw [e]
    · show bsum f m + 2 ^ m * (f m).toNat = _
      rw [h m (by omega), bsum_more h (by omega)]
      simp
theorem rowsW_marks {ws : List Nat} (h : ws.length ≤ 14) : rowsW ws (cols ws) = marks ws := by
  unfold rowsW
  rw [← law_marks h, List.sum_append]
  have e1 := rowsA_bsum ws ws.length (Nat.le_refl _)
  rw [List.take_of_length_le (by rw [rowsA_len]; exact Nat.le_refl _)] at e1
  have e2 : bsum (fun k => ((ws[k]?).map oddB).getD false) 14 = bsum (fun k => ((ws[k]?).map oddB).getD false) ws.length := bsum_more (fun k hk => by rw [List.getElem?_eq_none_iff.mpr hk]; rfl) h
  rw [e1, e2, Nat.mul_comm (2 ^ 14)]
  simp
theorem cols_cols (ws : List Nat) : cols (ws ++ [cols ws]) = 0 := by
  show (ws ++ [cols ws]).foldl (fun a b => a ^^^ b) 0 = 0
  rw [List.foldl_append]
  show cols ws ^^^ cols ws = 0
  exact Nat.xor_self _
theorem bitsOf_zero : bitsOf 0 = [] := by decide
end Bm
namespace Bm
open PySem PySem.Spec PyProof.Rows L2
end Bm
namespace Bm
open PySem PySem.Spec PyProof.Rows L2
end Bm
set_option Elab.async false
set_option linter.all false
set_option maxRecDepth 100000
set_option maxHeartbeats 4000000
set_option autoImplicit false
namespace Bm
open PySem PySem.Spec PyProof.Rows L2
theorem xor_halves (a b : Nat) : a ^^^ b = 2 * (a / 2 ^^^ b / 2) + (a + b) % 2 := by
  have h1 : (a ^^^ b) / 2 = a / 2 ^^^ b / 2 := Nat.xor_div_two
  have h2 : (a ^^^ b) % 2 = (a + b) % 2 := by
    have ha := Nat.mod_two_eq_zero_or_one a
    have hb := Nat.mod_two_eq_zero_or_one b
    have e := Nat.xor_mod_two_pow (a := a) (b := b) (n := 1)
    rw [Nat.pow_one] at e
    rw [e]
    rcases ha with ha | ha <;> rcases hb with hb | hb <;> rw [ha, hb, Nat.add_mod, ha, hb] <;> rfl
  omega
theorem xor_nil {a b : Nat} (h : a ^^^ b = 0) : a = b := by
  have e : (a ^^^ b) ^^^ b = a := by rw [Nat.xor_assoc, Nat.xor_self, Nat.xor_zero]
  rw [← e, h, Nat.zero_xor]
theorem xor_pow : ∀ (k w : Nat), w ^^^ 2 ^ k = if w.testBit k = true then w - 2 ^ k else w + 2 ^ k
  | 0, w => by
    rw [xor_halves, Nat.testBit_zero]
    have e : w / 2 ^^^ 2 ^ 0 / 2 = w / 2 := by rw [show 2 ^ 0 / 2 = 0 from rfl, Nat.xor_zero]
    rw [e]
    by_cases h : w % 2 = 1
    · rw [if_pos (by simpa using h)]
      omega
    · rw [if_neg (by simpa using h)]
      omega
  | k + 1, w => by
    have e1 : (2 : Nat) ^ (k + 1) = 2 * 2 ^ k := by rw [Nat.pow_succ, Nat.mul_comm]
    have e2 : (2 : Nat) ^ (k + 1) / 2 = 2 ^ k := by omega
    rw [xor_halves, e2, xor_pow k (w / 2), Nat.testBit_succ]
    by_cases h : (w / 2).testBit k = true
    · rw [if_pos h, if_pos h]
      have hw : 2 ^ k ≤ w / 2 := Nat.ge_two_pow_of_testBit h
      omega
    · rw [if_neg h, if_neg h]
      omega
theorem oddB_xor (a b : Nat) : oddB (a ^^^ b) = (oddB a ^^ oddB b) := by
  induction a using Nat.strongRecOn generalizing b with
  | _ a ih =>
    by_cases ha : a = 0
    · rw [ha, Nat.zero_xor, oddB_zero, Bool.false_xor]
    · have st : ∀ n, oddB n = ((n % 2 == 1) ^^ oddB (n / 2)) := fun n => by
        by_cases h : n = 0
        · rw [h]
          simp [oddB_zero]
        · exact oddB_step h
      rw [st (a ^^^ b), st a, st b]
      have e1 : (a ^^^ b) / 2 = a / 2 ^^^ b / 2 := Nat.xor_div_two
      have e2 : (a ^^^ b) % 2 = (a + b) % 2 := by
        have := xor_halves a b
        omega
      rw [e1, e2, ih (a / 2) (by omega)]
      have ha := Nat.mod_two_eq_zero_or_one a
      have hb := Nat.mod_two_eq_zero_or_one b
      rcases ha with ha | ha <;> rcases hb with hb | hb <;> rw [Nat.add_mod, ha, hb] <;> cases oddB (a / 2) <;> cases oddB (b / 2) <;> rfl
theorem oddB_pow : ∀ k : Nat, oddB (2 ^ k) = true
  | 0 => by rw [Nat.pow_zero, oddB_step (by decide)]; simp [oddB_zero]
  | k + 1 => by
    have e1 : (2 : Nat) ^ (k + 1) = 2 * 2 ^ k := by rw [Nat.pow_succ, Nat.mul_comm]
    have hp : 0 < 2 ^ k := Nat.pow_pos (by decide)
    rw [oddB_step (by omega), e1, Nat.mul_mod_right, Nat.mul_div_cancel_left _ (by decide), oddB_pow k]
    rfl
theorem oddB_turn (w k : Nat) : oddB (w ^^^ 2 ^ k) = !oddB w := by
  rw [oddB_xor, oddB_pow]
  cases oddB w <;> rfl
def flipB (b : List Nat) (i k : Nat) : List Nat := b.set i (b.getD i 0 ^^^ 2 ^ k)
theorem flipB_len (b : List Nat) (i k : Nat) : (flipB b i k).length = b.length := List.length_set
theorem flipB_get (b : List Nat) (i k j : Nat) (h : i < b.length) : (flipB b i k).getD j 0 = if j = i then b.getD i 0 ^^^ 2 ^ k else b.getD j 0 := by
  unfold flipB
  rw [List.getD_eq_getElem?_getD, List.getElem?_set]
  by_cases e : i = j
  · subst e
    rw [if_pos rfl, if_pos h, if_pos rfl]
    rfl
  · rw [if_neg e, if_neg (fun z => e z.symm), List.getD_eq_getElem?_getD]
theorem flipB_lt {b : List Nat} {i k : Nat} (h : ∀ w ∈ b, w < 65536) (hk : k < 16) (hi : i < b.length) : ∀ w ∈ flipB b i k, w < 65536 := fun w hw => by
  rcases List.mem_or_eq_of_mem_set hw with h1 | h1
  · exact h w h1
  · rw [h1]
    refine Nat.xor_lt_two_pow (n := 16) ?_ (Nat.pow_lt_pow_right (by decide) hk)
    rw [List.getD_eq_getElem?_getD, List.getElem?_eq_getElem hi]
    exact h _ (List.getElem_mem hi)
theorem foldl_xor_acc : ∀ (ws : List Nat) (a x : Nat), ws.foldl (fun a b => a ^^^ b) (a ^^^ x) = ws.foldl (fun a b => a ^^^ b) a ^^^ x
  | [], _, _ => rfl
  | w :: r, a, x => by
    show r.foldl _ (a ^^^ x ^^^ w) = r.foldl _ (a ^^^ w) ^^^ x
    rw [Nat.xor_assoc, Nat.xor_comm x w, ← Nat.xor_assoc, foldl_xor_acc r]
theorem foldl_xor_set : ∀ (ws : List Nat) (i a x : Nat), i < ws.length → (ws.set i (ws.getD i 0 ^^^ x)).foldl (fun a b => a ^^^ b) a = ws.foldl (fun a b => a ^^^ b) a ^^^ x
  | [], _, _, _, h => by cases h
  | w :: r, 0, a, x, _ => by
    show r.foldl _ (a ^^^ (w ^^^ x)) = r.foldl _ (a ^^^ w) ^^^ x
    rw [← Nat.xor_assoc, foldl_xor_acc]
  | w :: r, i + 1, a, x, h => by
    show (r.set i (r.getD i 0 ^^^ x)).foldl _ (a ^^^ w) = _
    exact foldl_xor_set r i (a ^^^ w) x (Nat.lt_of_succ_lt_succ h)
theorem cols_flip (ws : List Nat) (i k : Nat) (h : i < ws.length) : cols (flipB ws i k) = cols ws ^^^ 2 ^ k := foldl_xor_set ws i 0 _ h
theorem rowsW_bit {ws : List Nat} {c : Nat} (h : ws.length ≤ 14) (j : Nat) : (rowsW ws c).testBit j = if j = 14 then oddB c else ((ws[j]?).map oddB).getD false := by
  have e : rowsW ws c = bsum (fun k => if k = 14 then oddB c else ((ws[k]?).map oddB).getD false) 15 := by
    unfold rowsW
    rw [List.sum_append]
    have e1 := rowsA_bsum ws ws.length (Nat.le_refl _)
    rw [List.take_of_length_le (by rw [rowsA_len]; exact Nat.le_refl _)] at e1
    have e2 : bsum (fun k => ((ws[k]?).map oddB).getD false) 14 = bsum (fun k => ((ws[k]?).map oddB).getD false) ws.length := bsum_more (fun k hk => by rw [List.getElem?_eq_none_iff.mpr hk]; rfl) h
    show _ = bsum _ 14 + 2 ^ 14 * (if 14 = 14 then oddB c else _).toNat
    rw [if_pos rfl, e1, ← e2, Nat.mul_comm (2 ^ 14), bsum_congr (g := fun k => if k = 14 then oddB c else ((ws[k]?).map oddB).getD false) (fun k hk => by rw [if_neg (by omega)])]
    simp
  rw [e, bsum_bit]
  by_cases hj : j = 14
  · subst hj
    simp
  · rw [if_neg hj]
    by_cases hj2 : j < 15
    · simp [hj2]
    · have h2 : ws[j]? = none := List.getElem?_eq_none_iff.mpr (by omega)
      simp [hj2, h2]
theorem rowsW_flip {ws : List Nat} {c i k : Nat} (h : ws.length ≤ 14) (hi : i < ws.length) : rowsW (flipB ws i k) c = rowsW ws c ^^^ 2 ^ i := by
  apply Nat.eq_of_testBit_eq
  intro j
  rw [Nat.testBit_xor, rowsW_bit (by rw [flipB_len]; exact h), rowsW_bit h, Nat.testBit_two_pow]
  by_cases h14 : j = 14
  · rw [if_pos h14, if_pos h14, decide_eq_false (by omega), Bool.xor_false]
  · rw [if_neg h14, if_neg h14]
    unfold flipB
    rw [List.getElem?_set]
    by_cases e : i = j
    · subst e
      rw [if_pos rfl, if_pos hi, decide_eq_true rfl, List.getD_eq_getElem?_getD, List.getElem?_eq_getElem hi]
      show oddB (ws[i] ^^^ 2 ^ k) = (oddB ws[i] ^^ true)
      rw [oddB_turn]
      cases oddB ws[i] <;> rfl
    · rw [if_neg e, decide_eq_false e, Bool.xor_false]
theorem rowsW_turn {ws : List Nat} {c k : Nat} (h : ws.length ≤ 14) : rowsW ws (c ^^^ 2 ^ k) = rowsW ws c ^^^ 2 ^ 14 := by
  apply Nat.eq_of_testBit_eq
  intro j
  rw [Nat.testBit_xor, rowsW_bit h, rowsW_bit h, Nat.testBit_two_pow]
  by_cases h14 : j = 14
  · rw [if_pos h14, if_pos h14, decide_eq_true h14.symm, oddB_turn]
    cases oddB c <;> rfl
  · rw [if_neg h14, if_neg h14, decide_eq_false (fun z => h14 z.symm), Bool.xor_false]
def cSyn (b : List Nat) : Nat := cols (b.take (b.length - 2 + 1))
def rSyn (b : List Nat) : Nat := rowsW (b.take (b.length - 2)) (b.getD (b.length - 2) 0) ^^^ b.getD (b.length - 2 + 1) 0
def rBit (n i k : Nat) : Nat := if i < n then i else if i = n then 14 else k
theorem take_flip (b : List Nat) (m i k : Nat) (h : i < m) : (flipB b i k).take m = flipB (b.take m) i k := by
  unfold flipB
  have e : (b.take m).getD i 0 = b.getD i 0 := by
    rw [List.getD_eq_getElem?_getD, List.getD_eq_getElem?_getD, List.getElem?_take, if_pos h]
  rw [e, List.take_set]
theorem take_flip_out (b : List Nat) (m i k : Nat) (h : m ≤ i) : (flipB b i k).take m = b.take m := by
  unfold flipB
  rw [List.take_set, List.set_eq_of_length_le (by rw [List.length_take]; omega)]
theorem cSyn_flip {b : List Nat} {i k : Nat} (h3 : 3 ≤ b.length) (hi : i < b.length) : cSyn (flipB b i k) = cSyn b ^^^ (if i ≤ b.length - 2 then 2 ^ k else 0) := by
  unfold cSyn
  rw [flipB_len]
  by_cases h : i ≤ b.length - 2
  · rw [if_pos h, take_flip _ _ _ _ (by omega), cols_flip _ _ _ (by rw [List.length_take]; omega)]
  · rw [if_neg h, take_flip_out _ _ _ _ (by omega), Nat.xor_zero]
theorem rSyn_flip {b : List Nat} {i k : Nat} (h3 : 3 ≤ b.length) (h16 : b.length ≤ 16) (hi : i < b.length) : rSyn (flipB b i k) = rSyn b ^^^ 2 ^ rBit (b.length - 2) i k := by
  unfold rSyn rBit
  rw [flipB_len, flipB_get _ _ _ _ hi, flipB_get _ _ _ _ hi]
  by_cases h : i < b.length - 2
  · rw [if_pos h, take_flip _ _ _ _ h, if_neg (by omega), if_neg (by omega), rowsW_flip (by rw [List.length_take]; omega) (by rw [List.length_take]; omega)]
    rw [Nat.xor_assoc, Nat.xor_comm (2 ^ i), ← Nat.xor_assoc]
  · rw [if_neg h, take_flip_out _ _ _ _ (by omega)]
    by_cases h2 : i = b.length - 2
    · rw [if_pos h2, if_pos h2.symm, if_neg (by omega), h2, rowsW_turn (by rw [List.length_take]; omega)]
      rw [Nat.xor_assoc, Nat.xor_comm (2 ^ 14), ← Nat.xor_assoc]
    · have e : i = b.length - 2 + 1 := by omega
      rw [if_neg h2, if_neg (fun z => h2 z.symm), if_pos e.symm, e, Nat.xor_assoc]
theorem mem_bitsOf {n k : Nat} : k ∈ bitsOf n ↔ n.testBit k = true := by
  unfold bitsOf
  rw [List.mem_filter, List.mem_range]
  refine ⟨fun h => h.2, fun h => ⟨?_, h⟩⟩
  have h1 := Nat.ge_two_pow_of_testBit h
  refine Nat.lt_of_not_le fun hle => ?_
  have h2 : n < 2 ^ Builtin.Int.intBits ((n : Nat) : Int) := by
    have h := intBits_le_iff.mp (Nat.le_refl (Builtin.Int.intBits ((n : Nat) : Int)))
    simpa using h
  have h3 : (2 : Nat) ^ Builtin.Int.intBits ((n : Nat) : Int) ≤ 2 ^ k := Nat.pow_le_pow_right (by decide) hle
  omega
theorem nodup_bitsOf (n : Nat) : (bitsOf n).Nodup := List.Pairwise.filter _ List.nodup_range
theorem bitsOf_pow (k : Nat) : bitsOf (2 ^ k) = [k] := by
  have hm : ∀ j, j ∈ bitsOf (2 ^ k) ↔ j = k := fun j => by
    rw [mem_bitsOf, Nat.testBit_two_pow, decide_eq_true_iff]
    exact ⟨fun h => h.symm, fun h => h.symm⟩
  have nd := nodup_bitsOf (2 ^ k)
  cases q : bitsOf (2 ^ k) with
  | nil =>
    have := (hm k).mpr rfl
    rw [q] at this
    cases this
  | cons a r =>
    rw [q] at hm nd
    have ha := (hm a).mp List.mem_cons_self
    cases r with
    | nil => rw [ha]
    | cons b r =>
      have hb := (hm b).mp (List.mem_cons_of_mem _ List.mem_cons_self)
      rw [ha, hb] at nd
      simp at nd
theorem bitsOf_nil {n : Nat} : bitsOf n = [] ↔ n = 0 := by
  refine ⟨fun h => Nat.eq_of_testBit_eq fun k => ?_, fun h => by rw [h]; exact bitsOf_zero⟩
  rw [Nat.zero_testBit]
  cases q : n.testBit k with
  | false => rfl
  | true =>
    have := mem_bitsOf.mpr q
    rw [h] at this
    cases this
theorem bitsOf_one {n k : Nat} (h : bitsOf n = [k]) : n = 2 ^ k := by
  apply Nat.eq_of_testBit_eq
  intro j
  rw [Nat.testBit_two_pow]
  cases q : n.testBit j with
  | false =>
    refine (decide_eq_false fun e => ?_).symm
    have : k ∈ bitsOf n := by rw [h]; exact List.mem_singleton.mpr rfl
    rw [mem_bitsOf, e, q] at this
    cases this
  | true =>
    have := mem_bitsOf.mpr q
    rw [h] at this
    exact (decide_eq_true (List.mem_singleton.mp this).symm).symm
def sealB (ws : List Nat) : List Nat := ws ++ [cols ws, marks ws]
def mendC (n : Nat) (ws cs rs : List Nat) : Option (List Nat × Option (Nat × Nat)) :=
  if rs = [] ∧ cs = [] then some (ws, none) else if rs.length ≠ 1 ∨ 1 < cs.length then none else if cs = [] then some (ws, some (n + 1, rs.getD 0 0))
  else if rs.getD 0 0 < n then some (ws.set (rs.getD 0 0) (ws.getD (rs.getD 0 0) 0 ^^^ 1 * 2 ^ cs.getD 0 0), some (rs.getD 0 0, cs.getD 0 0))
  else if rs.getD 0 0 ≠ 14 then none else some (ws, some (n, cs.getD 0 0))
theorem mendR_eq (b : List Nat) : mendR b = mendC (b.length - 2) (b.take (b.length - 2)) (bitsOf (cSyn b)) (bitsOf (rSyn b)) := rfl
theorem sealB_len (ws : List Nat) : (sealB ws).length = ws.length + 2 := by simp [sealB]
theorem sealB_take (ws : List Nat) : (sealB ws).take ws.length = ws := by simp [sealB]
theorem sealB_syn {ws : List Nat} (h : ws.length ≤ 14) : cSyn (sealB ws) = 0 ∧ rSyn (sealB ws) = 0 := by
  have e0 : (sealB ws).length - 2 = ws.length := by rw [sealB_len, Nat.add_sub_cancel]
  unfold cSyn rSyn
  rw [e0, sealB_take]
  have e2 : (sealB ws).take (ws.length + 1) = ws ++ [cols ws] := by
    rw [show sealB ws = (ws ++ [cols ws]) ++ [marks ws] by simp [sealB]]
    exact List.take_left' (by simp)
  have e3 : (sealB ws).getD ws.length 0 = cols ws := by simp [sealB, List.getD_eq_getElem?_getD]
  have e4 : (sealB ws).getD (ws.length + 1) 0 = marks ws := by
    unfold sealB
    rw [List.getD_eq_getElem?_getD, List.getElem?_append_right (by omega)]
    simp
  rw [e2, e3, e4]
  exact ⟨cols_cols ws, by rw [rowsW_marks h, Nat.xor_self]⟩
theorem flip_flip (b : List Nat) (i k : Nat) (h : i < b.length) : flipB (flipB b i k) i k = b := by
  unfold flipB
  have e : (b.set i (b.getD i 0 ^^^ 2 ^ k)).getD i 0 = b.getD i 0 ^^^ 2 ^ k := by
    rw [List.getD_eq_getElem?_getD, List.getElem?_set, if_pos rfl, if_pos h]
    rfl
  rw [e, Nat.xor_assoc, Nat.xor_self, Nat.xor_zero, List.set_set, List.getD_eq_getElem?_getD, List.getElem?_eq_getElem h]
  exact List.set_getElem_self h
/-- one bit turned: it is found -/
theorem mend_flip {ws : List Nat} {i k : Nat} (h1 : 1 ≤ ws.length) (h : ws.length ≤ 14) (hi : i < ws.length + 2) : mendR (flipB (sealB ws) i k) = some (ws, some (i, k)) := by
  have hl := sealB_len ws
  have hi2 : i < (sealB ws).length := by omega
  obtain ⟨s1, s2⟩ := sealB_syn h
  have e0 : (flipB (sealB ws) i k).length - 2 = ws.length := by rw [flipB_len, hl, Nat.add_sub_cancel]
  have e0' : (sealB ws).length - 2 = ws.length := by rw [hl, Nat.add_sub_cancel]
  rw [mendR_eq, e0, cSyn_flip (by omega) hi2, rSyn_flip (by omega) (by omega) hi2, s1, s2, Nat.zero_xor, Nat.zero_xor, e0', bitsOf_pow]
  unfold rBit
  by_cases ha : i < ws.length
  · rw [if_pos (by omega), if_pos ha, bitsOf_pow, take_flip _ _ _ _ ha, sealB_take]
    have e5 : flipB (flipB ws i k) i k = ws := flip_flip ws i k ha
    unfold flipB at e5
    have e6 : (flipB ws i k).set i ((flipB ws i k).getD i 0 ^^^ 1 * 2 ^ k) = ws := by
      rw [Nat.one_mul]
      exact e5
    unfold mendC
    simp [ha]
    simpa using e6
  · rw [take_flip_out _ _ _ _ (by omega), sealB_take, if_neg ha]
    by_cases hb : i = ws.length
    · rw [if_pos (by omega), if_pos hb, bitsOf_pow, hb]
      have h14 : ¬ 14 < ws.length := by omega
      unfold mendC
      simp [h14]
    · have e : i = ws.length + 1 := by omega
      rw [if_neg (by omega), if_neg hb, bitsOf_zero, e]
      unfold mendC
      simp
/-- what is whole is sealed -/
theorem sealed_of {b : List Nat} (h3 : 2 ≤ b.length) (h16 : b.length ≤ 16) (hc : cSyn b = 0) (hr : rSyn b = 0) : b = sealB (b.take (b.length - 2)) := by
  have hl : (b.take (b.length - 2)).length = b.length - 2 := by rw [List.length_take]; omega
  have e : ∃ ws c m, b = ws ++ [c, m] := by
    refine ⟨b.take (b.length - 2), b.getD (b.length - 2) 0, b.getD (b.length - 1) 0, ?_⟩
    have e1 : b.drop (b.length - 2) = [b.getD (b.length - 2) 0, b.getD (b.length - 1) 0] := by
      rw [List.getD_eq_getElem?_getD, List.getD_eq_getElem?_getD, List.getElem?_eq_getElem (show b.length - 2 < b.length by omega), List.getElem?_eq_getElem (show b.length - 1 < b.length by omega)]
      rw [List.drop_eq_getElem_cons (show b.length - 2 < b.length by omega)]
      congr 1
      have : b.length - 2 + 1 = b.length - 1 := by omega
      rw [this, List.drop_eq_getElem_cons (show b.length - 1 < b.length by omega), List.drop_eq_nil_of_le (by omega)]
      rfl
    conv => lhs; rw [← List.take_append_drop (b.length - 2) b, e1]
  obtain ⟨ws, c, m, rfl⟩ := e
  have e0 : (ws ++ [c, m]).length - 2 = ws.length := by simp
  have hw : ws.length ≤ 14 := by
    have : (ws ++ [c, m]).length = ws.length + 2 := by simp
    omega
  have e1 : (ws ++ [c, m]).take ws.length = ws := by simp
  have e2 : (ws ++ [c, m]).take (ws.length + 1) = ws ++ [c] := by
    rw [show ws ++ [c, m] = (ws ++ [c]) ++ [m] by simp]
    exact List.take_left' (by simp)
  have e3 : (ws ++ [c, m]).getD ws.length 0 = c := by simp [List.getD_eq_getElem?_getD]
  have e4 : (ws ++ [c, m]).getD (ws.length + 1) 0 = m := by
    rw [List.getD_eq_getElem?_getD, List.getElem?_append_right (by omega)]
    simp
  unfold cSyn at hc
  unfold rSyn at hr
  rw [e0, e2] at hc
  rw [e0, e1, e3, e4] at hr
  have ec : c = cols ws := by
    have : cols ws ^^^ c = 0 := by
      have z : (ws ++ [c]).foldl (fun a b => a ^^^ b) 0 = 0 := hc
      rw [List.foldl_append] at z
      exact z
    exact (xor_nil this).symm
  have em : m = marks ws := by
    rw [ec, rowsW_marks hw] at hr
    exact (xor_nil hr).symm
  rw [e0, e1, ec, em]
  rfl
theorem flipB_eq {b : List Nat} {i k : Nat} (h : i < b.length) : flipB b i k = b.take i ++ [b.getD i 0 ^^^ 2 ^ k] ++ b.drop (i + 1) := by
  unfold flipB
  rw [List.set_eq_take_append_cons_drop, if_pos h, List.append_assoc]
  rfl
def spFlip (K : PySem.W.Frag) : Sp := fun vs H Q _ => ∃ (a : Addr) (bs : List Nat) (i k : Nat), vs = [.ref a, .int (i : Int), .int (k : Int)] ∧ SqT K H a (wsV bs) ∧ i < bs.length ∧ bs.length ≤ 100 ∧ k < 16 ∧
  ∀ p H', Same H H' → SqT K H' p (wsV (flipB bs i k)) → Q (.ref p) H'
end Bm
set_option autoImplicit false
set_option Elab.async false
set_option linter.all false
set_option maxRecDepth 100000
set_option maxHeartbeats 4000000
namespace Lk26
open PySem PySem.Spec PyProof.Rows L2 Bm Fv LamK
def wsI (ws : List Nat) : List Int := ws.map fun n : Nat => ((n : Nat) : Int)
theorem wsI_len (ws : List Nat) : (wsI ws).length = ws.length := List.length_map ..
theorem wsI_at {ws : List Nat} {i n : Nat} (h : ws[i]? = some n) : atI ((wsI ws).map D.int) ((i : Nat) : Int) = some (.int ((n : Nat) : Int)) := atI_of (by omega) (by simp [wsI, h])
noncomputable def odd_body : M Fl :=
  (seqM (augM 1 xorD (e2 andD (eV 0) (ret (.int (1)))))
  (augM 0 shrD (ret (.int (1)))))
noncomputable def lodd_body : M Fl :=
  (seqM (setM (e2 addD (eV 1) (e2 modD (eV 0) (ret (.int (2))))) (putS 1))
  (setM (e2 divD (eV 0) (ret (.int (2)))) (putS 0)))
theorem and_one (n : Nat) : Builtin.bitAnd ((n : Nat) : Int) 1 = ((n % 2 : Nat) : Int) := by
  have := Bits.bitAnd_mask (x := ((n : Nat) : Int)) 1 (by omega)
  rw [show (2 ^ 1 - 1 : Int) = 1 by decide] at this
  rw [this]
  omega
theorem odd_loop (h : List Ob) : ∀ (k n f fuel : Nat), n < 2 ^ k → f < 2 → k < fuel → whM (bM (e2 gtD (eV 0) (ret (.int (0))))) odd_body fuel ⟨[some (.int ((n : Nat) : Int)), some (.int ((f : Nat) : Int))], h⟩ = .ok .nx ⟨[some (.int 0), some (.int ((f ^^^ (oddB n).toNat : Nat) : Int))], h⟩
  | k, n, f, 0, _, _, hl => absurd hl (by omega)
  | k, n, f, fuel + 1, hn, hf, hl => by
    by_cases z : n = 0
    · subst z
      rw [wh_end (e1 := ⟨[some (.int ((0 : Nat) : Int)), some (.int ((f : Nat) : Int))], h⟩) (by simp), oddB_zero]
      simp
    · cases k with
      | zero => exact absurd hn (by simp; omega)
      | succ k =>
        have hn2 : n / 2 < 2 ^ k := by rw [Nat.pow_succ] at hn; omega
        have hf2 : f ^^^ (n % 2) < 2 := by
          rcases (by omega : f = 0 ∨ f = 1) with rfl | rfl <;> rcases (by omega : n % 2 = 0 ∨ n % 2 = 1) with q | q <;> rw [q] <;> decide
        have ih := odd_loop h k (n / 2) (f ^^^ (n % 2)) fuel hn2 hf2 (by omega)
        have e2' : (f ^^^ (n % 2)) ^^^ (oddB (n / 2)).toNat = f ^^^ (oddB n).toNat := by
          rw [oddB_step z]
          rcases (by omega : f = 0 ∨ f = 1) with rfl | rfl <;> rcases (by omega : n % 2 = 0 ∨ n % 2 = 1) with q | q <;> cases oddB (n / 2) <;> rw [q] <;> decide
        rw [← e2', ← ih]
        have p : 0 < n := by omega
        refine wh_step (e1 := ⟨[some (.int ((n : Nat) : Int)), some (.int ((f : Nat) : Int))], h⟩) (by simp [p]) ?_
        have x := xor_nn f (n % 2)
        have d : ((n : Nat) : Int) / 2 ^ 1 = ((n / 2 : Nat) : Int) := by omega
        simp [odd_body, and_one]
        simpa using x
theorem is_odd_ok {n : Nat} (hn : n < 2 ^ 64) (h : List Ob) : F_is_odd [.int ((n : Nat) : Int)] h = .ok (.bl (oddB n)) h := by
  have l := odd_loop h 64 n 0 100000 hn (by decide) (by decide)
  rw [Nat.zero_xor] at l
  unfold odd_body at l
  simp [F_is_odd, B_is_odd]
  rw [show ((0 : Nat) : Int) = 0 from rfl] at l
  rw [l]
  cases oddB n <;> simp
theorem lodd_loop (h : List Ob) : ∀ (k n f fuel : Nat), n < 2 ^ k → k < fuel → ∃ g : Nat, whM (bM (e2 gtD (eV 0) (ret (.int (0))))) lodd_body fuel ⟨[some (.int ((n : Nat) : Int)), some (.int ((f : Nat) : Int))], h⟩ = .ok .nx ⟨[some (.int 0), some (.int ((g : Nat) : Int))], h⟩ ∧ g % 2 = ((f % 2) ^^^ (oddB n).toNat)
  | k, n, f, 0, _, hl => absurd hl (by omega)
  | k, n, f, fuel + 1, hn, hl => by
    by_cases z : n = 0
    · subst z
      refine ⟨f, ?_, by rw [oddB_zero]; simp⟩
      rw [wh_end (e1 := ⟨[some (.int ((0 : Nat) : Int)), some (.int ((f : Nat) : Int))], h⟩) (by simp)]
      rfl
    · cases k with
      | zero => exact absurd hn (by simp; omega)
      | succ k =>
        have hn2 : n / 2 < 2 ^ k := by rw [Nat.pow_succ] at hn; omega
        obtain ⟨g, ih, eg⟩ := lodd_loop h k (n / 2) (f + n % 2) fuel hn2 (by omega)
        refine ⟨g, ?_, ?_⟩
        · rw [← ih]
          have p : 0 < n := by omega
          refine wh_step (e1 := ⟨[some (.int ((n : Nat) : Int)), some (.int ((f : Nat) : Int))], h⟩) (by simp [p]) ?_
          have l2 : Nat.log2 2 < 9000 := by decide +kernel
          simp [lodd_body, l2]
        · rw [eg, oddB_step z]
          rcases (by omega : f % 2 = 0 ∨ f % 2 = 1) with p | p <;> rcases (by omega : n % 2 = 0 ∨ n % 2 = 1) with q | q <;> cases oddB (n / 2) <;> rw [Nat.add_mod, p, q] <;> decide
theorem law_is_odd_ok {n : Nat} (hn : n < 2 ^ 64) (h : List Ob) : F_law_is_odd [.int ((n : Nat) : Int)] h = .ok (.int (((oddB n).toNat : Nat) : Int)) h := by
  obtain ⟨g, l, eg⟩ := lodd_loop h 64 n 0 100000 hn (by decide)
  unfold lodd_body at l
  have l2 : Nat.log2 2 < 9000 := by decide +kernel
  simp [F_law_is_odd, B_law_is_odd]
  rw [show ((0 : Nat) : Int) = 0 from rfl] at l
  rw [l]
  rw [Nat.zero_mod, Nat.zero_xor] at eg
  simp [l2]
  omega
/-- columns: all words, one into the other -/
theorem cols_loop (h : List Ob) (a0 : Option D) : ∀ (ws : List Nat) (f : Nat) (a2 : Option D), ∃ b2, forL (putS 2) (augM 1 xorD (eV 2)) ((wsI ws).map D.int) ⟨[a0, some (.int ((f : Nat) : Int)), a2], h⟩ = .ok .nx ⟨[a0, some (.int ((ws.foldl (fun a b => a ^^^ b) f : Nat) : Int)), b2], h⟩
  | [], f, a2 => ⟨a2, rfl⟩
  | w :: ws, f, a2 => by
    obtain ⟨b2, e⟩ := cols_loop h a0 ws (f ^^^ w) (some (.int ((w : Nat) : Int)))
    refine ⟨b2, ?_⟩
    show forL _ _ (.int ((w : Nat) : Int) :: (wsI ws).map D.int) _ = _
    rw [List.foldl_cons, ← e]
    refine for_step rfl ?_
    simp [xor_nn]
theorem columns_ok {x : D} {ws : List Nat} (hx : stayOf x = some ((wsI ws).map D.int)) (h : List Ob) : F_columns_of [x] h = .ok (.int ((cols ws : Nat) : Int)) h := by
  obtain ⟨b2, e⟩ := cols_loop h (some x) ws 0 none
  rw [show ((0 : Nat) : Int) = 0 from rfl] at e
  simp [F_columns_of, B_columns_of, hx, e]
  rfl
end Lk26
set_option autoImplicit false
set_option Elab.async false
set_option linter.all false
set_option maxRecDepth 100000
set_option maxHeartbeats 4000000
namespace Lk26
open PySem PySem.Spec PyProof.Rows L2 Bm Fv LamK
theorem ints_of : ∀ xs : List Int, intsOf (xs.map D.int) = some xs
  | [] => rfl
  | x :: xs => by simp [intsOf, ints_of xs]
theorem low_ints (n : Nat) (l : List Int) : lows n (l.map D.int) = true := by
  induction l with
  | nil => simp [lows]
  | cons a l ih => simp [lows, low, ih]
theorem is_whole_int (i lo hi : Int) (h : List Ob) : F_is_whole [.int i, .int lo, .int hi] h = .ok (.bl (decide (lo ≤ i) && decide (i ≤ hi))) h := by
  by_cases h1 : lo ≤ i <;> simp [F_is_whole, B_is_whole, isiNames, isiB, h1]
def Sq (x : D) (xs : List Int) : Prop := x = .tup (xs.map .int) ∨ x = .lst (xs.map .int)
theorem Sq.stay {x : D} {xs : List Int} (s : Sq x xs) : stayOf x = some (xs.map .int) := by rcases s with rfl | rfl <;> rfl
theorem Sq.lenD {x : D} {xs : List Int} (s : Sq x xs) (h : List Ob) : lenD h [x] = some (.int (xs.length : Nat)) := by rcases s with rfl | rfl <;> simp
noncomputable def nb_body : M Fl :=
  (ifS (orM (bM (e2 eqD (eV 1) (e2 addD (ret (.int (14))) (ret (.int (2)))))) (notM (bM (callM F_is_whole [] (consM (eV 2) (consM (ret (.int (0))) (consM (ret (.int (65535))) nilM)))))))
  (raiseN "BadImage" (consM (eV 1) nilM))
  (ret .nx))
/-- the first that is no word, or 16 -/
def fb16 : List Int → Nat → Option Nat
  | [], _ => none
  | x :: xs, i => if i = 16 ∨ ¬ (0 ≤ x ∧ x ≤ 65535) then some i else fb16 xs (i + 1)
theorem fb16_none : ∀ {ws : List Nat} {i : Nat}, (∀ w ∈ ws, w < 65536) → i + ws.length ≤ 16 → fb16 (wsI ws) i = none
  | [], _, _, _ => rfl
  | w :: ws, i, a, l => by
    have h1 := a w (.head _)
    simp only [List.length_cons] at l
    have c : ¬ (i = 16 ∨ ¬ (0 ≤ ((w : Nat) : Int) ∧ ((w : Nat) : Int) ≤ 65535)) := by omega
    show (if i = 16 ∨ ¬ (0 ≤ ((w : Nat) : Int) ∧ ((w : Nat) : Int) ≤ 65535) then some i else fb16 (wsI ws) (i + 1)) = none
    rw [if_neg c]
    exact fb16_none (fun y hy => a y (.tail _ hy)) (by omega)
theorem nb_loop (a0 : Option D) (h : List Ob) : ∀ (xs : List Int) (i : Nat) (a1 a2 : Option D), ∃ b1 b2, forL (tupG 2 (consG (putS 1) (consG (putS 2) nilG))) nb_body ((xs.map D.int).mapIdx fun j x => D.tup [.int ((i + j : Nat) : Int), x]) ⟨[a0, a1, a2], h⟩ =
    (match fb16 xs i with
    | none => .ok .nx ⟨[a0, b1, b2], h⟩
    | some k => .ex "BadImage" [("number", .int (k : Nat))] ⟨[a0, b1, b2], h⟩)
  | [], i, a1, a2 => ⟨a1, a2, rfl⟩
  | x :: xs, i, a1, a2 => by
    obtain ⟨b1, b2, e⟩ := nb_loop a0 h xs (i + 1) (some (.int (i : Nat))) (some (.int x))
    have hf : (fun (j : Nat) (x : D) => D.tup [.int ((i + 1 + j : Nat) : Int), x]) = fun (j : Nat) (x : D) => D.tup [.int ((i + (j + 1) : Nat) : Int), x] := by
      funext j x
      rw [Nat.add_assoc, Nat.add_comm 1]
    rw [hf] at e
    by_cases c : i = 16 ∨ ¬ (0 ≤ x ∧ x ≤ 65535)
    · refine ⟨some (.int (i : Nat)), some (.int x), ?_⟩
      unfold fb16
      rw [if_pos c]
      by_cases c1 : (i : Int) = 16
      · simp [List.mapIdx_cons, tupG, consG, nilG, nb_body, c1]
      · have c2 : ¬ (0 ≤ x ∧ x ≤ 65535) := by omega
        have : (decide (0 ≤ x) && decide (x ≤ 65535)) = false := by simp; omega
        simp [List.mapIdx_cons, tupG, consG, nilG, nb_body, c1, is_whole_int, this]
    · refine ⟨b1, b2, ?_⟩
      unfold fb16
      rw [if_neg c, ← e]
      have c1 : ¬ (i : Int) = 16 := by omega
      have c2 : 0 ≤ x := by omega
      have c3 : x ≤ 65535 := by omega
      rw [List.map_cons, List.mapIdx_cons, x_forL1]
      simp [tupG, consG, nilG, nb_body, c1, is_whole_int, c2, c3]
def nbR (h : List Ob) (xs : List Int) : Rs := match fb16 xs 0 with
  | some k => .ex "BadImage" [("number", .int (k : Nat))] h
  | none => if xs.length < 3 then .ex "BadImage" [("number", .int (xs.length : Nat))] h else .ok .non h
theorem nb_u : B_need_block = seqM (forM (enumI (consM (eV 0) nilM)) (tupG 2 (consG (putS 1) (consG (putS 2) nilG))) nb_body) (ifS (bM (e2 ltD (cN lenD (consM (eV 0) nilM)) (ret (.int (3))))) (raiseN "BadImage" (consM (cN lenD (consM (eV 0) nilM)) nilM)) (ret .nx)) := rfl
theorem need_block_ok {x : D} {xs : List Int} (s : Sq x xs) (h : List Ob) : F_need_block [x] h = nbR h xs := by
  obtain ⟨b1, b2, e⟩ := nb_loop (some x) h xs 0 none none
  have hf : ((xs.map D.int).mapIdx fun j x => D.tup [.int ((0 + j : Nat) : Int), x]) = enumL (xs.map D.int) := by
    simp [enumL]
  rw [hf] at e
  have st := s.stay
  have sl := s.lenD h
  rw [F_need_block, nb_u]
  cases q : fb16 xs 0 with
  | some k =>
    rw [q] at e
    simp [enumI, st, e, nbR, q]
  | none =>
    rw [q] at e
    by_cases c : xs.length < 3
    · have c' : (xs.length : Int) < 3 := by omega
      simp [enumI, st, e, nbR, q, sl, c, c']
    · have c' : ¬ (xs.length : Int) < 3 := by omega
      simp [enumI, st, e, nbR, q, sl, c, c']
theorem wsI_map (ws : List Nat) : (wsI ws).map D.int = ws.map fun n : Nat => D.int ((n : Nat) : Int) := by simp [wsI]
theorem rng_nats (n : Nat) : rangeL 0 ((n : Nat) : Int).toNat = (List.range n).map fun i : Nat => D.int ((i : Nat) : Int) := by
  simp [rangeL]
theorem bits_ok {n : Nat} (hn : n < 2 ^ 60) (h : List Ob) : F_bits_in [.int ((n : Nat) : Int)] h = .ok (.lst ((wsI (bitsOf n)).map .int)) h := by
  have hb : Builtin.Int.intBits ((n : Nat) : Int) ≤ 60 := bits_le hn
  obtain ⟨k, ek⟩ : ∃ k, k = Builtin.Int.intBits ((n : Nat) : Int) := ⟨_, rfl⟩
  rw [← ek] at hb
  have qi : rng1 (consM (bitsM (eV 0)) nilM) ⟨[some (.int ((n : Nat) : Int)), none], h⟩ = .ok ((List.range k).map fun i : Nat => D.int ((i : Nat) : Int)) ⟨[some (.int ((n : Nat) : Int)), none], h⟩ := by
    rw [← rng_nats]
    refine st_rngI (j := ((k : Nat) : Int)) (st_arg ?_ st_arg0) (by omega) (by omega)
    rw [ek]
    rfl
  have F := drop_flt (t := .one 1) (vs := [1]) (tt := bM (e2 eqD (e2 andD (e2 shrD (eV 0) (eV 1)) (ret (.int (1)))) (ret (.int (1))))) (f := eV 1) (e := ⟨[some (.int ((n : Nat) : Int)), none], h⟩) (g := fun d => d) (p := fun d => match d with | .int i => n.testBit i.toNat | _ => false) qi (by simp; omega) (fun d hd => by
      obtain ⟨i, hi, rfl⟩ := List.mem_map.mp hd
      refine ⟨_, rfl, fun h' => ⟨?_, fun _ => rfl⟩⟩
      have d1 : ((n : Nat) : Int) / 2 ^ i = ((n / 2 ^ i : Nat) : Int) := by rw [Int.natCast_ediv, Int.natCast_pow]; rfl
      have e1 := and_one (n / 2 ^ i)
      rw [← d1] at e1
      have e2' : (decide (((n / 2 ^ i % 2 : Nat) : Int) = 1)) = n.testBit i := by
        rw [Nat.testBit_eq_decide_div_mod_eq]
        by_cases c : n / 2 ^ i % 2 = 1
        · rw [decide_eq_true c, c]; rfl
        · rw [decide_eq_false c, decide_eq_false (by omega)]
      simp [wipeD, e1]
      have e3 : ((n / 2 ^ i % 2 : Nat) : Int) = (n : Int) / 2 ^ i % 2 := by rw [Int.natCast_emod, d1]; rfl
      rw [← e3]
      exact e2') (by
      have : (((List.range k).map fun i : Nat => D.int ((i : Nat) : Int)).filter fun d => match d with | .int i => n.testBit i.toNat | _ => false) = (wsI (bitsOf n)).map .int := by
        rw [List.filter_map, wsI_map, bitsOf, ← ek]
        rfl
      rw [this, List.map_id']
      exact low_ints _ _)
  have e4 : (((List.range k).map fun i : Nat => D.int ((i : Nat) : Int)).filter fun d => match d with | .int i => n.testBit i.toNat | _ => false) = (wsI (bitsOf n)).map .int := by
    rw [List.filter_map, wsI_map, bitsOf, ← ek]
    rfl
  rw [e4, List.map_id'] at F
  refine st_def (n := 2) (B := B_bits_in) (ρ := [some (.int ((n : Nat) : Int)), none]) rfl (e := ⟨[some (.int ((n : Nat) : Int)), none], h⟩) ?_
  exact st_ret F
end Lk26
set_option autoImplicit false
set_option Elab.async false
set_option linter.all false
set_option maxRecDepth 100000
set_option maxHeartbeats 4000000
namespace Lk26
open PySem PySem.Spec PyProof.Rows L2 Bm Fv LamK
noncomputable def lb1_body : M Fl :=
  (seqM (setM (e2 addD (eV 1) (e2 mulA (eV 3) (e2 modD (cN sumA (consM (dropM (lcP (.one 5) [5] (seqI (eV 0)) (ret true) (e2 modD (e2 divD (eV 5) (eV 3)) (ret (.int (2)))))) nilM)) (ret (.int (2)))))) (putS 1))
  (setM (e2 mulA (eV 3) (ret (.int (2)))) (putS 3)))
noncomputable def lb2_body : M Fl :=
  (seqM (setM (e2 addD (eV 2) (e2 mulA (eV 3) (ifM (bM (e2 ltD (eV 4) (cN lenD (consM (eV 0) nilM)))) (callM F_law_is_odd [] (consM (e2 ixD (eV 0) (eV 4)) nilM)) (ret (.int (0)))))) (putS 2))
  (setM (e2 mulA (eV 3) (ret (.int (2)))) (putS 3)))
theorem l2 : Nat.log2 2 < 9000 := by decide +kernel
theorem pow_lt16 {k : Nat} (h : k ≤ 16) : 2 ^ k ≤ 65536 := by
  have : 2 ^ k ≤ 2 ^ 16 := Nat.pow_le_pow_right (by decide) h
  omega
theorem pow_log {k : Nat} (h : k ≤ 16) : (((2 ^ k : Nat) : Int)).natAbs.log2 < 9000 := by
  have h1 := pow_lt16 h
  have : (((2 ^ k : Nat) : Int)).natAbs = 2 ^ k := Int.natAbs_natCast _
  rw [this, Nat.log2_two_pow]
  omega
theorem bit_sum (k : Nat) (ws : List Nat) : ((wsI ws).map fun w : Int => w / ((2 ^ k : Nat) : Int) % 2).sum = ((bitcount k ws : Nat) : Int) := by
  induction ws with
  | nil => rfl
  | cons w ws ih =>
    show ((w : Nat) : Int) / ((2 ^ k : Nat) : Int) % 2 + ((wsI ws).map fun w : Int => w / ((2 ^ k : Nat) : Int) % 2).sum = _
    rw [ih]
    have e : bitcount k (w :: ws) = w / 2 ^ k % 2 + bitcount k ws := by simp [bitcount]
    rw [e]
    omega
theorem lb_comp {x : D} {ws : List Nat} (hx : stayOf x = some ((wsI ws).map D.int)) (hl : ws.length ≤ 1000) {k : Nat} (hk : k ≤ 16) (a1 a2 a4 a5 : Option D) (h : List Ob) :
    dropM (lcP (.one 5) [5] (seqI (eV 0)) (ret true) (e2 modD (e2 divD (eV 5) (eV 3)) (ret (.int (2))))) ⟨[some x, a1, a2, some (.int ((2 ^ k : Nat) : Int)), a4, a5], h⟩ = .ok (.lst (((wsI ws).map fun w : Int => w / ((2 ^ k : Nat) : Int) % 2).map .int)) ⟨[some x, a1, a2, some (.int ((2 ^ k : Nat) : Int)), a4, a5], h⟩ := by
  have qi : seqI (eV 0) ⟨[some x, a1, a2, some (.int ((2 ^ k : Nat) : Int)), a4, a5], h⟩ = .ok ((wsI ws).map D.int) ⟨[some x, a1, a2, some (.int ((2 ^ k : Nat) : Int)), a4, a5], h⟩ := by simp [hx]
  have p0 : (0 : Int) < ((2 ^ k : Nat) : Int) := by
    have := Nat.two_pow_pos k
    omega
  have lg := pow_log hk
  have F := drop_lc (t := .one 5) (vs := [5]) (tt := ret true) (f := e2 modD (e2 divD (eV 5) (eV 3)) (ret (.int (2)))) (g := fun d => match d with | .int w => .int (w / ((2 ^ k : Nat) : Int) % 2) | d => d) qi (by rw [List.length_map, wsI_len]; omega) (fun d hd => by
      obtain ⟨w, hw, rfl⟩ := List.mem_map.mp hd
      refine ⟨_, rfl, fun h' => ⟨rfl, ?_⟩⟩
      obtain ⟨S, eS⟩ : ∃ S : Int, S = ((2 ^ k : Nat) : Int) := ⟨_, rfl⟩
      rw [← eS] at p0 lg ⊢
      simp [wipeD, p0, lg, l2]) (by
      have e : (((wsI ws).map D.int).map fun d => match d with | .int w => D.int (w / ((2 ^ k : Nat) : Int) % 2) | d => d) = ((wsI ws).map fun w : Int => w / ((2 ^ k : Nat) : Int) % 2).map .int := by
        rw [List.map_map, List.map_map]
        rfl
      rw [e]
      exact low_ints _ _)
  rw [F, List.map_map, List.map_map]
  rfl
theorem lb1_loop {x : D} {ws : List Nat} (hx : stayOf x = some ((wsI ws).map D.int)) (hl : ws.length ≤ 1000) (a2 a5 : Option D) (h : List Ob) : ∀ (ds : List D) (k : Nat) (a4 : Option D), k + ds.length ≤ 16 →
    ∃ b4, forL (putS 4) lb1_body ds ⟨[some x, some (.int ((bsum (fun k => decide (bitcount k ws % 2 = 1)) k : Nat) : Int)), a2, some (.int ((2 ^ k : Nat) : Int)), a4, a5], h⟩ = .ok .nx ⟨[some x, some (.int ((bsum (fun k => decide (bitcount k ws % 2 = 1)) (k + ds.length) : Nat) : Int)), a2, some (.int ((2 ^ (k + ds.length) : Nat) : Int)), b4, a5], h⟩
  | [], k, a4, _ => ⟨a4, rfl⟩
  | d :: ds, k, a4, hk => by
    simp only [List.length_cons] at hk
    obtain ⟨b4, e⟩ := lb1_loop hx hl a2 a5 h ds (k + 1) (some d) (by omega)
    refine ⟨b4, ?_⟩
    rw [show k + (d :: ds).length = k + 1 + ds.length by simp only [List.length_cons]; omega, ← e]
    refine for_step rfl ?_
    have cp := lb_comp hx hl (show k ≤ 16 by omega) (some (.int ((bsum (fun k => decide (bitcount k ws % 2 = 1)) k : Nat) : Int))) a2 (some d) a5 h
    have bs := bit_sum k ws
    have P := pow_lt16 (show k ≤ 16 by omega)
    have eb : ((bsum (fun k => decide (bitcount k ws % 2 = 1)) (k + 1) : Nat) : Int) = ((bsum (fun k => decide (bitcount k ws % 2 = 1)) k : Nat) : Int) + ((2 ^ k : Nat) : Int) * (((bitcount k ws : Nat) : Int) % 2) := by
      show ((bsum (fun k => decide (bitcount k ws % 2 = 1)) k + 2 ^ k * (decide (bitcount k ws % 2 = 1)).toNat : Nat) : Int) = _
      rw [Int.natCast_add, Int.natCast_mul]
      congr 2
      rcases (by omega : bitcount k ws % 2 = 0 ∨ bitcount k ws % 2 = 1) with q | q
      · rw [q]
        simp
        omega
      · rw [q]
        simp
        omega
    have ep : ((2 ^ (k + 1) : Nat) : Int) = ((2 ^ k : Nat) : Int) * 2 := by rw [Nat.pow_succ, Int.natCast_mul]; rfl
    rw [eb, ep]
    obtain ⟨S, eS⟩ : ∃ S : Int, S = ((2 ^ k : Nat) : Int) := ⟨_, rfl⟩
    have S0 : S ≤ 65536 := by rw [eS]; exact Int.ofNat_le.mpr P
    have S1 : 0 ≤ S := by rw [eS]; exact Int.natCast_nonneg _
    obtain ⟨B, eB⟩ : ∃ B : Int, B = ((bitcount k ws : Nat) : Int) := ⟨_, rfl⟩
    obtain ⟨Y, eY⟩ : ∃ Y : Int, Y = ((bsum (fun k => decide (bitcount k ws % 2 = 1)) k : Nat) : Int) := ⟨_, rfl⟩
    obtain ⟨L, eL⟩ : ∃ L : List Int, L = (wsI ws).map fun w : Int => w / ((2 ^ k : Nat) : Int) % 2 := ⟨_, rfl⟩
    rw [← eL, ← eB] at bs
    rw [← eL, ← eS, ← eY] at cp
    rw [← eS, ← eB, ← eY]
    have c1 : CMul S (B % 2) := .inr (by omega)
    have c2 : CMul S 2 := .inr (by omega)
    simp [lb1_body, cp, ints_of, bs, l2, c1, c2]
theorem lb2_loop {x : D} {ws : List Nat} (sx : Sq x (wsI ws)) (hw : ∀ w ∈ ws, w < 65536) (a1 a5 : Option D) (h : List Ob) : ∀ (ds : List Nat) (k : Nat) (a4 : Option D), k + ds.length ≤ 14 → (∀ i, (hi : i < ds.length) → ds[i] = k + i) →
    ∃ b4, forL (putS 4) lb2_body (ds.map fun i : Nat => D.int ((i : Nat) : Int)) ⟨[some x, a1, some (.int ((bsum (fun k => ((ws[k]?).map oddB).getD false) k : Nat) : Int)), some (.int ((2 ^ k : Nat) : Int)), a4, a5], h⟩ = .ok .nx ⟨[some x, a1, some (.int ((bsum (fun k => ((ws[k]?).map oddB).getD false) (k + ds.length) : Nat) : Int)), some (.int ((2 ^ (k + ds.length) : Nat) : Int)), b4, a5], h⟩
  | [], k, a4, _, _ => ⟨a4, rfl⟩
  | d :: ds, k, a4, hk, hd => by
    simp only [List.length_cons] at hk
    have d0 : d = k := hd 0 (by simp)
    subst d0
    obtain ⟨b4, e⟩ := lb2_loop sx hw a1 a5 h ds (d + 1) (some (.int ((d : Nat) : Int))) (by omega) (fun i hi => by
      have := hd (i + 1) (by simp; omega)
      simp at this
      omega)
    refine ⟨b4, ?_⟩
    rw [show d + (d :: ds).length = d + 1 + ds.length by simp only [List.length_cons]; omega, ← e, List.map_cons]
    refine for_step rfl ?_
    have P := pow_lt16 (show d ≤ 16 by omega)
    have ep : ((2 ^ (d + 1) : Nat) : Int) = ((2 ^ d : Nat) : Int) * 2 := by rw [Nat.pow_succ, Int.natCast_mul]; rfl
    have eb : ((bsum (fun k => ((ws[k]?).map oddB).getD false) (d + 1) : Nat) : Int) = ((bsum (fun k => ((ws[k]?).map oddB).getD false) d : Nat) : Int) + ((2 ^ d : Nat) : Int) * ((((ws[d]?).map oddB).getD false).toNat : Nat) := by
      show ((bsum (fun k => ((ws[k]?).map oddB).getD false) d + 2 ^ d * (((ws[d]?).map oddB).getD false).toNat : Nat) : Int) = _
      rw [Int.natCast_add, Int.natCast_mul]
    rw [eb, ep]
    obtain ⟨S, eS⟩ : ∃ S : Int, S = ((2 ^ d : Nat) : Int) := ⟨_, rfl⟩
    have S0 : S ≤ 65536 := by rw [eS]; exact Int.ofNat_le.mpr P
    have S1 : 0 ≤ S := by rw [eS]; exact Int.natCast_nonneg _
    obtain ⟨Y, eY⟩ : ∃ Y : Int, Y = ((bsum (fun k => ((ws[k]?).map oddB).getD false) d : Nat) : Int) := ⟨_, rfl⟩
    rw [← eS, ← eY]
    have c2 : CMul S 2 := .inr (by omega)
    have sl := sx.lenD h
    by_cases c : d < ws.length
    · have c' : ((d : Nat) : Int) < ((wsI ws).length : Nat) := by rw [wsI_len]; omega
      have hi : ws[d]? = some ws[d] := List.getElem?_eq_getElem c
      have ix : ixD h x (.int ((d : Nat) : Int)) = some (.int ((ws[d] : Nat) : Int)) := by
        have a := wsI_at hi
        rcases sx with rfl | rfl <;> simpa using a
      have ho := law_is_odd_ok (n := ws[d]) (by have := hw _ (List.getElem_mem c); omega) h
      rw [hi]
      have c1 : CMul S ((oddB ws[d]).toNat : Nat) := .inr (by cases oddB ws[d] <;> simp)
      rw [wsI_len] at sl c'
      simp [lb2_body, sl, c, ix, ho, c1, c2]
    · have hi : ws[d]? = none := List.getElem?_eq_none (by omega)
      have c' : ¬ ((d : Nat) : Int) < (ws.length : Nat) := by omega
      rw [hi]
      rw [wsI_len] at sl
      have c1 : CMul S 0 := .inr (by simp)
      simp [lb2_body, sl, c, c1, c2]
end Lk26
set_option autoImplicit false
set_option Elab.async false
set_option linter.all false
set_option maxRecDepth 100000
set_option maxHeartbeats 4000000
namespace Lk26
open PySem PySem.Spec PyProof.Rows L2 Bm Fv LamK
noncomputable def lb1 : M Fl := (setM (tupM (consM (ret (.int (0))) (consM (ret (.int (0))) (consM (ret (.int (1))) nilM)))) (tupG 3 (consG (putS 1) (consG (putS 2) (consG (putS 3) nilG)))))
noncomputable def lb2 : M Fl := (forM (rng1 (consM (ret (.int (16))) nilM)) (putS 4) (seqM (setM (e2 addD (eV 1) (e2 mulA (eV 3) (e2 modD (cN sumA (consM (dropM (lcP (.one 5) [5] (seqI (eV 0)) (ret true) (e2 modD (e2 divD (eV 5) (eV 3)) (ret (.int (2)))))) nilM)) (ret (.int (2)))))) (putS 1)) (setM (e2 mulA (eV 3) (ret (.int (2)))) (putS 3))))
noncomputable def lb3 : M Fl := (setM (ret (.int (1))) (putS 3))
noncomputable def lb4 : M Fl := (forM (rng1 (consM (ret (.int (14))) nilM)) (putS 4) (seqM (setM (e2 addD (eV 2) (e2 mulA (eV 3) (ifM (bM (e2 ltD (eV 4) (cN lenD (consM (eV 0) nilM)))) (callM F_law_is_odd [] (consM (e2 ixD (eV 0) (eV 4)) nilM)) (ret (.int (0)))))) (putS 2)) (setM (e2 mulA (eV 3) (ret (.int (2)))) (putS 3))))
noncomputable def lb5 : M Fl := (retM (e2 addD (cN tupleD (consM (eV 0) nilM)) (tupM (consM (eV 1) (consM (e2 addD (eV 2) (e2 mulA (eV 3) (callM F_law_is_odd [] (consM (eV 1) nilM)))) nilM)))))
theorem lb_u : B_law_block = seqM lb1 (seqM lb2 (seqM lb3 (seqM lb4 lb5))) := rfl
theorem cols_lt16 {ws : List Nat} (hw : ∀ w ∈ ws, w < 65536) : cols ws < 65536 := cols_lt (n := 16) hw (by decide)
theorem st_tup3 {a b c : D} {i j k : Nat} {e : En} : setM (tupM (consM (ret a) (consM (ret b) (consM (ret c) nilM)))) (tupG 3 (consG (putS i) (consG (putS j) (consG (putS k) nilG)))) e = .ok .nx ⟨((e.ρ.set i (some a)).set j (some b)).set k (some c), e.h⟩ := by
  simp [tupG, consG, nilG]
theorem law_block_ok {x : D} {ws : List Nat} (sx : Sq x (wsI ws)) (hw : ∀ w ∈ ws, w < 65536) (hl : ws.length ≤ 14) (h : List Ob) : F_law_block [x] h = .ok (.tup ((wsI (sealB ws)).map .int)) h := by
  obtain ⟨b4, l1⟩ := lb1_loop sx.stay (by omega) (some (.int 0)) none h (rangeL 0 16) 0 none (by decide)
  obtain ⟨c4, l2⟩ := lb2_loop sx hw (some (.int ((cols ws : Nat) : Int))) none h (List.range 14) 0 b4 (by simp) (fun i hi => by simp)
  have e16 : (rangeL 0 16).length = 16 := by decide
  rw [e16, Nat.zero_add, law_cols hw] at l1
  have l1' : forL (putS 4) lb1_body (rangeL 0 16) ⟨[some x, some (.int 0), some (.int 0), some (.int 1), none, none], h⟩ = .ok .nx ⟨[some x, some (.int ((cols ws : Nat) : Int)), some (.int 0), some (.int ((2 ^ 16 : Nat) : Int)), b4, none], h⟩ := l1
  rw [List.length_range, Nat.zero_add] at l2
  have l2' : forL (putS 4) lb2_body ((List.range 14).map fun i : Nat => D.int ((i : Nat) : Int)) ⟨[some x, some (.int ((cols ws : Nat) : Int)), some (.int 0), some (.int 1), b4, none], h⟩ = .ok .nx ⟨[some x, some (.int ((cols ws : Nat) : Int)), some (.int ((bsum (fun k => ((ws[k]?).map oddB).getD false) 14 : Nat) : Int)), some (.int ((2 ^ 14 : Nat) : Int)), c4, none], h⟩ := l2
  rw [F_law_block, lb_u]
  refine st_def (ρ := [some x, none, none, none, none, none]) (e := ⟨[some x, some (.int ((cols ws : Nat) : Int)), some (.int ((bsum (fun k => ((ws[k]?).map oddB).getD false) 14 : Nat) : Int)), some (.int ((2 ^ 14 : Nat) : Int)), c4, none], h⟩) rfl ?_
  have s1 : lb1 ⟨[some x, none, none, none, none, none], h⟩ = .ok .nx ⟨[some x, some (.int 0), some (.int 0), some (.int 1), none, none], h⟩ := st_tup3
  have s2 : lb2 ⟨[some x, some (.int 0), some (.int 0), some (.int 1), none, none], h⟩ = .ok .nx ⟨[some x, some (.int ((cols ws : Nat) : Int)), some (.int 0), some (.int ((2 ^ 16 : Nat) : Int)), b4, none], h⟩ := st_for (st_rngI (j := 16) (st_arg rfl st_arg0) (by decide) (by decide)) l1'
  have s3 : lb3 ⟨[some x, some (.int ((cols ws : Nat) : Int)), some (.int 0), some (.int ((2 ^ 16 : Nat) : Int)), b4, none], h⟩ = .ok .nx ⟨[some x, some (.int ((cols ws : Nat) : Int)), some (.int 0), some (.int 1), b4, none], h⟩ := rfl
  have s4 : lb4 ⟨[some x, some (.int ((cols ws : Nat) : Int)), some (.int 0), some (.int 1), b4, none], h⟩ = .ok .nx ⟨[some x, some (.int ((cols ws : Nat) : Int)), some (.int ((bsum (fun k => ((ws[k]?).map oddB).getD false) 14 : Nat) : Int)), some (.int ((2 ^ 14 : Nat) : Int)), c4, none], h⟩ := by
    refine st_for (st_rngI (j := 14) (st_arg rfl st_arg0) (by decide) (by decide)) ?_
    rw [show rangeL 0 (14 : Int).toNat = (List.range 14).map fun i : Nat => D.int ((i : Nat) : Int) from rng_nats 14]
    exact l2'
  refine (st_seq s1).trans ((st_seq s2).trans ((st_seq s3).trans ((st_seq s4).trans ?_)))
  have lm := law_marks hl
  have ho := law_is_odd_ok (n := cols ws) (by have := cols_lt16 hw; omega) h
  have tt : tupleD h [x] = some (.tup ((wsI ws).map .int)) := by rcases sx with rfl | rfl <;> simp
  have c1 : CMul ((2 ^ 14 : Nat) : Int) (((oddB (cols ws)).toNat : Nat) : Int) := .inr (by cases oddB (cols ws) <;> decide)
  have em : ((bsum (fun k => ((ws[k]?).map oddB).getD false) 14 : Nat) : Int) + ((2 ^ 14 : Nat) : Int) * (((oddB (cols ws)).toNat : Nat) : Int) = ((marks ws : Nat) : Int) := by
    rw [← lm, Int.natCast_add, Int.natCast_mul]
  have es : (wsI (sealB ws)).map D.int = (wsI ws).map D.int ++ [.int ((cols ws : Nat) : Int), .int ((marks ws : Nat) : Int)] := by simp [wsI, sealB]
  have ll : ((wsI ws).map D.int).length = ws.length := by simp [wsI]
  have sz : ((wsI ws).map D.int).length + 2 ≤ sizeLine := size_le (by omega)
  rw [es]
  obtain ⟨A, eA⟩ : ∃ A : Int, A = ((2 ^ 14 : Nat) : Int) := ⟨_, rfl⟩
  obtain ⟨O, eO⟩ : ∃ O : Int, O = (((oddB (cols ws)).toNat : Nat) : Int) := ⟨_, rfl⟩
  obtain ⟨Y, eY⟩ : ∃ Y : Int, Y = ((bsum (fun k => ((ws[k]?).map oddB).getD false) 14 : Nat) : Int) := ⟨_, rfl⟩
  obtain ⟨W, eW⟩ : ∃ W, W = (wsI ws).map D.int := ⟨_, rfl⟩
  rw [← eO] at ho
  rw [← eA, ← eO] at c1
  rw [← eA, ← eO, ← eY] at em
  rw [← eW] at tt sz
  rw [← eA, ← eY, ← eW, ← em]
  have g1 : mulA h (.int A) (.int O) = some (.int (A * O)) := by simp [c1]
  have g2 : addD h (.int Y) (.int (A * O)) = some (.int (Y + A * O)) := rfl
  have g3 : addD h (.tup W) (.tup [.int ((cols ws : Nat) : Int), .int (Y + A * O)]) = some (.tup (W ++ [.int ((cols ws : Nat) : Int), .int (Y + A * O)])) := if_pos sz
  exact st_ret (st_e2 (st_cN (st_arg (st_v rfl) st_arg0) tt) (st_tup (st_arg (st_v rfl) (st_arg (st_e2 (st_v rfl) (st_e2 (st_v rfl) (st_call1 rfl ho) g1) g2) st_arg0))) g3)
noncomputable def lf1 : M Fl := (setM (ret (.int (1))) (putS 3))
noncomputable def lf2 : M Fl := (forM (rng1 (consM (eV 2) nilM)) (putS 4) (setM (e2 mulA (eV 3) (ret (.int (2)))) (putS 3)))
noncomputable def lf3 : M Fl := (setM (e2 addD (e2 ixD (eV 0) (eV 1)) (e2 ixD (frzM (lstM (consM (eV 3) (consM (e2 subD (ret (.int (0))) (eV 3)) nilM)))) (e2 modD (e2 divD (e2 ixD (eV 0) (eV 1)) (eV 3)) (ret (.int (2)))))) (putS 5))
noncomputable def lf4 : M Fl := (retM (e2 addD (e2 addD (slM (eV 0) (prt none) (prt (some (eV 1)))) (tupM (consM (eV 5) nilM))) (slM (eV 0) (prt (some (e2 addD (eV 1) (ret (.int (1)))))) (prt none))))
theorem lf_u : B_law_flipped = seqM lf1 (seqM lf2 (seqM lf3 lf4)) := rfl
theorem pick_bit {w k : Nat} : ∃ v : Int, atI [D.int ((2 ^ k : Nat) : Int), D.int (0 - ((2 ^ k : Nat) : Int))] (((w / 2 ^ k % 2 : Nat)) : Int) = some (.int v) ∧ (w : Int) + v = ((w ^^^ 2 ^ k : Nat) : Int) := by
  have e := xor_pow k w
  rw [Nat.testBit_eq_decide_div_mod_eq] at e
  rcases Nat.mod_two_eq_zero_or_one (w / 2 ^ k) with h | h
  · rw [h] at e ⊢
    refine ⟨_, rfl, ?_⟩
    rw [e]
    simp
  · rw [h] at e ⊢
    refine ⟨_, rfl, ?_⟩
    have hle : 2 ^ k ≤ w := by
      refine Nat.le_of_not_lt fun z => ?_
      rw [Nat.div_eq_of_lt z] at h
      cases h
    rw [if_pos (decide_eq_true rfl)] at e
    rw [e]
    generalize 2 ^ k = m at *
    omega
theorem lf_loop (a0 a1 a2 a5 : Option D) (h : List Ob) : ∀ (ds : List D) (k : Nat) (a4 : Option D), k + ds.length ≤ 16 → ∃ b4, forL (putS 4) (setM (e2 mulA (eV 3) (ret (.int (2)))) (putS 3)) ds ⟨[a0, a1, a2, some (.int ((2 ^ k : Nat) : Int)), a4, a5], h⟩ = .ok .nx ⟨[a0, a1, a2, some (.int ((2 ^ (k + ds.length) : Nat) : Int)), b4, a5], h⟩
  | [], k, a4, _ => ⟨a4, rfl⟩
  | d :: ds, k, a4, hk => by
    simp only [List.length_cons] at hk
    obtain ⟨b4, e⟩ := lf_loop a0 a1 a2 a5 h ds (k + 1) (some d) (by omega)
    refine ⟨b4, ?_⟩
    rw [show k + (d :: ds).length = k + 1 + ds.length by simp only [List.length_cons]; omega, ← e]
    refine for_step rfl ?_
    have P := pow_lt16 (show k ≤ 16 by omega)
    have ep : ((2 ^ (k + 1) : Nat) : Int) = ((2 ^ k : Nat) : Int) * 2 := by rw [Nat.pow_succ, Int.natCast_mul]; rfl
    rw [ep]
    obtain ⟨S, eS⟩ : ∃ S : Int, S = ((2 ^ k : Nat) : Int) := ⟨_, rfl⟩
    have S0 : S ≤ 65536 := by rw [eS]; exact Int.ofNat_le.mpr P
    have S1 : 0 ≤ S := by rw [eS]; exact Int.natCast_nonneg _
    rw [← eS]
    have c2 : CMul S 2 := .inr (by omega)
    simp [c2]
theorem flipped_ok {b : List Nat} {i k : Nat} (hi : i < b.length) (hk : k < 16) (hb : b.length ≤ 100) (h : List Ob) : F_law_flipped [.tup ((wsI b).map .int), .int ((i : Nat) : Int), .int ((k : Nat) : Int)] h = .ok (.tup ((wsI (flipB b i k)).map .int)) h := by
  obtain ⟨b4, l⟩ := lf_loop (some (.tup ((wsI b).map .int))) (some (.int ((i : Nat) : Int))) (some (.int ((k : Nat) : Int))) none h (rangeL 0 k) 0 none (by rw [length_rangeL]; omega)
  rw [length_rangeL, Nat.zero_add] at l
  have l' : forL (putS 4) (setM (e2 mulA (eV 3) (ret (.int (2)))) (putS 3)) (rangeL 0 k) ⟨[some (.tup ((wsI b).map .int)), some (.int ((i : Nat) : Int)), some (.int ((k : Nat) : Int)), some (.int 1), none, none], h⟩ = .ok .nx ⟨[some (.tup ((wsI b).map .int)), some (.int ((i : Nat) : Int)), some (.int ((k : Nat) : Int)), some (.int ((2 ^ k : Nat) : Int)), b4, none], h⟩ := l
  obtain ⟨w, ew⟩ : ∃ w, b[i]? = some w := ⟨_, List.getElem?_eq_getElem hi⟩
  obtain ⟨v, ev, es⟩ := pick_bit (w := w) (k := k)
  have ix : ixD h (.tup ((wsI b).map .int)) (.int ((i : Nat) : Int)) = some (.int ((w : Nat) : Int)) := wsI_at ew
  have ed : b.getD i 0 = w := by rw [List.getD_eq_getElem?_getD, ew]; rfl
  rw [F_law_flipped, lf_u]
  refine st_def (ρ := [some (.tup ((wsI b).map .int)), some (.int ((i : Nat) : Int)), some (.int ((k : Nat) : Int)), none, none, none]) (e := ⟨[some (.tup ((wsI b).map .int)), some (.int ((i : Nat) : Int)), some (.int ((k : Nat) : Int)), some (.int ((2 ^ k : Nat) : Int)), b4, some (.int ((w ^^^ 2 ^ k : Nat) : Int))], h⟩) rfl ?_
  have s1 : lf1 ⟨[some (.tup ((wsI b).map .int)), some (.int ((i : Nat) : Int)), some (.int ((k : Nat) : Int)), none, none, none], h⟩ = .ok .nx ⟨[some (.tup ((wsI b).map .int)), some (.int ((i : Nat) : Int)), some (.int ((k : Nat) : Int)), some (.int 1), none, none], h⟩ := rfl
  have s2 : lf2 ⟨[some (.tup ((wsI b).map .int)), some (.int ((i : Nat) : Int)), some (.int ((k : Nat) : Int)), some (.int 1), none, none], h⟩ = .ok .nx ⟨[some (.tup ((wsI b).map .int)), some (.int ((i : Nat) : Int)), some (.int ((k : Nat) : Int)), some (.int ((2 ^ k : Nat) : Int)), b4, none], h⟩ := by
    refine st_for (st_rngI (j := ((k : Nat) : Int)) (st_arg (st_v rfl) st_arg0) (by omega) (by omega)) ?_
    rw [Int.toNat_natCast]
    exact l'
  refine (st_seq s1).trans ((st_seq s2).trans ?_)
  have P := pow_lt16 (show k ≤ 16 by omega)
  have pp := Nat.two_pow_pos k
  have lg := pow_log (show k ≤ 16 by omega)
  have dm : ((w : Nat) : Int) / ((2 ^ k : Nat) : Int) % 2 = ((w / 2 ^ k % 2 : Nat) : Int) := by
    rw [Int.natCast_emod, Int.natCast_ediv]
    rfl
  obtain ⟨S, eS⟩ : ∃ S : Int, S = ((2 ^ k : Nat) : Int) := ⟨_, rfl⟩
  rw [← eS] at lg dm ev
  have S0 : 0 < S := by rw [eS]; exact Int.natCast_pos.mpr pp
  obtain ⟨X, eX⟩ : ∃ X : Int, X = ((w ^^^ 2 ^ k : Nat) : Int) := ⟨_, rfl⟩
  rw [← eX] at es
  rw [← eS, ← eX]
  have g1 : divD h (.int ((w : Nat) : Int)) (.int S) = some (.int (((w : Nat) : Int) / S)) := by simp [S0, lg]
  have g2 : modD h (.int (((w : Nat) : Int) / S)) (.int 2) = some (.int ((w / 2 ^ k % 2 : Nat) : Int)) := by rw [← dm]; simp
  have g3 : ixD h (.lst [.int S, .int (0 - S)]) (.int ((w / 2 ^ k % 2 : Nat) : Int)) = some (.int v) := by rw [x_ix1]; exact ev
  have g4 : addD h (.int ((w : Nat) : Int)) (.int v) = some (.int X) := by rw [← es]; rfl
  have s3 : lf3 ⟨[some (.tup ((wsI b).map .int)), some (.int ((i : Nat) : Int)), some (.int ((k : Nat) : Int)), some (.int S), b4, none], h⟩ = .ok .nx ⟨[some (.tup ((wsI b).map .int)), some (.int ((i : Nat) : Int)), some (.int ((k : Nat) : Int)), some (.int S), b4, some (.int X)], h⟩ :=
    st_set (st_e2 (st_e2 (st_v rfl) (st_v rfl) ix) (st_e2 (st_lst (st_arg (st_v rfl) (st_arg (st_e2 st_c (st_v rfl) rfl) st_arg0))) (st_e2 (st_e2 (st_e2 (st_v rfl) (st_v rfl) ix) (st_v rfl) g1) st_c g2) g3) g4)
  refine (st_seq s3).trans (st_ret ?_)
  have z1 : ((wsI b).map D.int).length = b.length := by simp [wsI]
  have c1 : slD h (.tup ((wsI b).map .int)) none (some ((i : Nat) : Int)) = some (.tup (((wsI b).map D.int).take i)) := by rw [x_sl1, Fv.cut_to (by omega)]; simp
  have c2 : slD h (.tup ((wsI b).map .int)) (some (((i : Nat) : Int) + 1)) none = some (.tup (((wsI b).map D.int).drop (i + 1))) := by
    rw [x_sl1, Fv.cut_from (by omega)]
    rw [show (((i : Nat) : Int) + 1).toNat = i + 1 by omega]
  have fe : (wsI (flipB b i k)).map D.int = (((wsI b).map D.int).take i ++ [.int X]) ++ ((wsI b).map D.int).drop (i + 1) := by
    rw [flipB_eq hi, ed, eX]
    simp [wsI]
  rw [fe]
  have n1 : (((wsI b).map D.int).take i).length + [D.int X].length ≤ sizeLine := size_le (by rw [List.length_take, z1, List.length_singleton]; omega)
  have n2 : (((wsI b).map D.int).take i ++ [D.int X]).length + (((wsI b).map D.int).drop (i + 1)).length ≤ sizeLine := size_le (by rw [List.length_append, List.length_take, List.length_drop, z1, List.length_singleton]; omega)
  have p0 : ∀ e : En, prt none e = .ok none e := fun e => rfl
  refine st_e2 (st_e2 (st_sl (st_v rfl) (p0 _) (st_prt (st_v rfl)) c1) (st_tup (st_arg (st_v rfl) st_arg0)) (if_pos n1)) (st_sl (st_v rfl) (st_prt (st_e2 (st_v rfl) st_c rfl)) (p0 _) c2) (if_pos n2)
end Lk26
set_option autoImplicit false
set_option Elab.async false
set_option linter.all false
set_option maxRecDepth 100000
set_option maxHeartbeats 4000000
namespace Lk26
open PySem PySem.Spec PyProof.Rows L2 Bm Fv LamK
noncomputable def due_in : M Fl :=
  (seqM (setM (callM F_law_flipped [] (consM (eV 0) (consM (eV 2) (consM (eV 3) nilM)))) (putS 4))
  (ifS (bM (e2 eqD (callM F_law_block [] (consM (slM (eV 4) (prt none) (prt (some (negM (ret (.int (2))))))) nilM)) (eV 4)))
  (retM (tupM (consM (slM (eV 4) (prt none) (prt (some (negM (ret (.int (2))))))) (consM (tupM (consM (eV 2) (consM (eV 3) nilM))) nilM))))
  (ret .nx)))
noncomputable def du1 : M Fl := (setM (slM (eV 0) (prt none) (prt (some (negM (ret (.int (2))))))) (putS 1))
noncomputable def du2 : M Fl := (ifS (bM (e2 eqD (callM F_law_block [] (consM (eV 1) nilM)) (eV 0))) (retM (tupM (consM (eV 1) (consM (ret .non) nilM)))) (ret .nx))
noncomputable def du3 : M Fl := (forM (rng1 (consM (cN lenD (consM (eV 0) nilM)) nilM)) (putS 2) (forM (rng1 (consM (ret (.int (16))) nilM)) (putS 3) (seqM (setM (callM F_law_flipped [] (consM (eV 0) (consM (eV 2) (consM (eV 3) nilM)))) (putS 4)) (ifS (bM (e2 eqD (callM F_law_block [] (consM (slM (eV 4) (prt none) (prt (some (negM (ret (.int (2))))))) nilM)) (eV 4))) (retM (tupM (consM (slM (eV 4) (prt none) (prt (some (negM (ret (.int (2))))))) (consM (tupM (consM (eV 2) (consM (eV 3) nilM))) nilM)))) (ret .nx)))))
noncomputable def du4 : M Fl := (retM (ret (.str "NoMend")))
theorem du_u : B_law_due = seqM du1 (seqM du2 (seqM du3 du4)) := rfl
abbrev tI (ws : List Nat) : D := .tup ((wsI ws).map .int)
theorem wsI_eq : ∀ {a b : List Nat}, wsI a = wsI b → a = b
  | [], [], _ => rfl
  | [], y :: b, e => by cases e
  | x :: a, [], e => by cases e
  | x :: a, y :: b, e => by
    have e : ((x : Nat) : Int) :: wsI a = ((y : Nat) : Int) :: wsI b := e
    rw [List.cons.injEq] at e
    rw [wsI_eq e.2, Int.ofNat_inj.mp e.1]
theorem wsI_inj {a b : List Nat} : wsI a = wsI b ↔ a = b := ⟨wsI_eq, fun h => by rw [h]⟩
theorem eq_tI (a b : List Nat) (h : List Ob) : eqD h (tI a) (tI b) = some (.bl (decide (a = b))) := by
  rw [eq_tints]
  by_cases c : a = b
  · rw [decide_eq_true c, decide_eq_true (wsI_inj.mpr c)]
  · rw [decide_eq_false c, decide_eq_false (fun z => c (wsI_inj.mp z))]
theorem cut_m2 {α : Type} {xs : List α} (h : 2 ≤ xs.length) : cut xs none (some (-2)) = xs.take (xs.length - 2) := by
  unfold cut
  have e : HT.sIx xs.length xs.length (some (-2)) = xs.length - 2 := by
    unfold HT.sIx
    simp
    omega
  rw [HT.sIx_none, e]
  simp
def resD : List Nat × Option (Nat × Nat) → D
  | (ws, none) => .tup [tI ws, .non]
  | (ws, some (i, k)) => .tup [tI ws, .tup [.int ((i : Nat) : Int), .int ((k : Nat) : Int)]]
def tryB (b : List Nat) (i k : Nat) : Option (List Nat × Option (Nat × Nat)) :=
  if sealB ((flipB b i k).take (b.length - 2)) = flipB b i k then some ((flipB b i k).take (b.length - 2), some (i, k)) else none
def dueL (b : List Nat) : Option (List Nat × Option (Nat × Nat)) := if sealB (b.take (b.length - 2)) = b then some (b.take (b.length - 2), none) else (List.range b.length).findSome? fun i => (List.range 16).findSome? fun k => tryB b i k
theorem slB {b : List Nat} (h3 : 2 ≤ b.length) (h : List Ob) : slD h (tI b) none (some (-2)) = some (tI (b.take (b.length - 2))) := by
  rw [x_sl1, cut_m2 (by simpa [wsI] using h3)]
  simp [wsI]
theorem in_ok {b : List Nat} (h3 : 3 ≤ b.length) (h16 : b.length ≤ 16) (hw : ∀ w ∈ b, w < 65536) {i k : Nat} (hi : i < b.length) (hk : k < 16) (a1 a4 : Option D) (h : List Ob) :
    ∃ b4, due_in ⟨[some (tI b), a1, some (.int ((i : Nat) : Int)), some (.int ((k : Nat) : Int)), a4], h⟩ = (match tryB b i k with
      | some r => .ok (.rt (resD r)) ⟨[some (tI b), a1, some (.int ((i : Nat) : Int)), some (.int ((k : Nat) : Int)), b4], h⟩
      | none => .ok .nx ⟨[some (tI b), a1, some (.int ((i : Nat) : Int)), some (.int ((k : Nat) : Int)), b4], h⟩) := by
  have f := flipped_ok hi hk (by omega) h
  have fl : (flipB b i k).length = b.length := flipB_len b i k
  have sl := slB (b := flipB b i k) (by omega) h
  rw [fl] at sl
  have wl : ∀ w ∈ (flipB b i k).take (b.length - 2), w < 65536 := fun w m => flipB_lt hw hk hi w (List.mem_of_mem_take m)
  have lb := law_block_ok (x := tI ((flipB b i k).take (b.length - 2))) (.inl rfl) wl (by rw [List.length_take]; omega) h
  have p0 : ∀ e : En, prt none e = .ok none e := fun e => rfl
  have pm : ∀ e : En, prt (some (negM (ret (.int (2))))) e = .ok (some (-2)) e := fun e => by simp
  refine ⟨some (tI (flipB b i k)), ?_⟩
  have s1 : setM (callM F_law_flipped [] (consM (eV 0) (consM (eV 2) (consM (eV 3) nilM)))) (putS 4) ⟨[some (tI b), a1, some (.int ((i : Nat) : Int)), some (.int ((k : Nat) : Int)), a4], h⟩ = .ok .nx ⟨[some (tI b), a1, some (.int ((i : Nat) : Int)), some (.int ((k : Nat) : Int)), some (tI (flipB b i k))], h⟩ :=
    st_set (st_call (st_arg (st_v rfl) (st_arg (st_v rfl) (st_arg (st_v rfl) st_arg0))) f)
  unfold due_in
  refine (st_seq s1).trans ?_
  have t := st_be2 (st_call (st_arg (st_sl (st_v (i := 4) (ρ := [some (tI b), a1, some (.int ((i : Nat) : Int)), some (.int ((k : Nat) : Int)), some (tI (flipB b i k))]) rfl) (p0 _) (pm _) sl) st_arg0) lb) (st_v (i := 4) rfl) (eq_tI _ _ h)
  unfold tryB
  by_cases c : sealB ((flipB b i k).take (b.length - 2)) = flipB b i k
  · rw [if_pos c]
    rw [decide_eq_true c] at t
    exact (st_if_t t).trans (st_ret (st_tup (st_arg (st_sl (st_v rfl) (p0 _) (pm _) sl) (st_arg (st_tup (st_arg (st_v rfl) (st_arg (st_v rfl) st_arg0))) st_arg0))))
  · rw [if_neg c]
    rw [decide_eq_false c] at t
    exact st_if_nx t
theorem row_ok {b : List Nat} (h3 : 3 ≤ b.length) (h16 : b.length ≤ 16) (hw : ∀ w ∈ b, w < 65536) {i : Nat} (hi : i < b.length) (a1 : Option D) (h : List Ob) : ∀ (ks : List Nat) (a3 a4 : Option D), (∀ k ∈ ks, k < 16) →
    ∃ b3 b4, forL (putS 3) due_in (ks.map fun i : Nat => D.int ((i : Nat) : Int)) ⟨[some (tI b), a1, some (.int ((i : Nat) : Int)), a3, a4], h⟩ = (match ks.findSome? (fun k => tryB b i k) with
      | some r => .ok (.rt (resD r)) ⟨[some (tI b), a1, some (.int ((i : Nat) : Int)), b3, b4], h⟩
      | none => .ok .nx ⟨[some (tI b), a1, some (.int ((i : Nat) : Int)), b3, b4], h⟩)
  | [], a3, a4, _ => ⟨a3, a4, rfl⟩
  | k :: ks, a3, a4, hk => by
    obtain ⟨c4, e⟩ := in_ok h3 h16 hw hi (hk k (.head _)) a1 a4 h
    obtain ⟨b3, b4, e'⟩ := row_ok h3 h16 hw hi a1 h ks (some (.int ((k : Nat) : Int))) c4 fun j hj => hk j (.tail _ hj)
    rw [List.map_cons, List.findSome?_cons]
    cases q : tryB b i k with
    | some r =>
      rw [q] at e
      exact ⟨some (.int ((k : Nat) : Int)), c4, for_rt rfl e⟩
    | none =>
      rw [q] at e
      exact ⟨b3, b4, (for_step rfl e).trans e'⟩
theorem rows_ok {b : List Nat} (h3 : 3 ≤ b.length) (h16 : b.length ≤ 16) (hw : ∀ w ∈ b, w < 65536) (a1 : Option D) (h : List Ob) : ∀ (is : List Nat) (a2 a3 a4 : Option D), (∀ i ∈ is, i < b.length) →
    ∃ b2 b3 b4, forL (putS 2) (forM (rng1 (consM (ret (.int (16))) nilM)) (putS 3) due_in) (is.map fun i : Nat => D.int ((i : Nat) : Int)) ⟨[some (tI b), a1, a2, a3, a4], h⟩ = (match is.findSome? (fun i => (List.range 16).findSome? fun k => tryB b i k) with
      | some r => .ok (.rt (resD r)) ⟨[some (tI b), a1, b2, b3, b4], h⟩
      | none => .ok .nx ⟨[some (tI b), a1, b2, b3, b4], h⟩)
  | [], a2, a3, a4, _ => ⟨a2, a3, a4, rfl⟩
  | i :: is, a2, a3, a4, hi => by
    obtain ⟨c3, c4, e⟩ := row_ok h3 h16 hw (hi i (.head _)) a1 h (List.range 16) a3 a4 (fun k hk => by simpa using hk)
    obtain ⟨b2, b3, b4, e'⟩ := rows_ok h3 h16 hw a1 h is (some (.int ((i : Nat) : Int))) c3 c4 fun j hj => hi j (.tail _ hj)
    have r16 : rng1 (consM (ret (.int (16))) nilM) ⟨[some (tI b), a1, some (.int ((i : Nat) : Int)), a3, a4], h⟩ = .ok ((List.range 16).map fun i : Nat => D.int ((i : Nat) : Int)) ⟨[some (tI b), a1, some (.int ((i : Nat) : Int)), a3, a4], h⟩ := by
      rw [← rng_nats 16]
      exact st_rngI (j := 16) (st_arg rfl st_arg0) (by decide) (by decide)
    have e1 := st_for r16 e
    rw [List.map_cons, List.findSome?_cons]
    cases q : (List.range 16).findSome? (fun k => tryB b i k) with
    | some r =>
      rw [q] at e1
      exact ⟨some (.int ((i : Nat) : Int)), c3, c4, for_rt rfl e1⟩
    | none =>
      rw [q] at e1
      exact ⟨b2, b3, b4, (for_step rfl e1).trans e'⟩
theorem low_res (n : Nat) (r : List Nat × Option (Nat × Nat)) : low n (resD r) = true := by
  obtain ⟨ws, t⟩ := r
  have l := low_ints n (wsI ws)
  rcases t with _ | ⟨i, k⟩ <;> simp [resD, low, lows, l]
def dueD (b : List Nat) : D := match dueL b with
  | some r => resD r
  | none => .str "NoMend"
theorem law_due_ok {b : List Nat} (h3 : 3 ≤ b.length) (h16 : b.length ≤ 16) (hw : ∀ w ∈ b, w < 65536) (h : List Ob) : F_law_due [tI b] h = .ok (dueD b) h := by
  have p0 : ∀ e : En, prt none e = .ok none e := fun e => rfl
  have pm : ∀ e : En, prt (some (negM (ret (.int (2))))) e = .ok (some (-2)) e := fun e => by simp
  have sl := slB (b := b) (by omega) h
  have wl : ∀ w ∈ b.take (b.length - 2), w < 65536 := fun w m => hw w (List.mem_of_mem_take m)
  have lb := law_block_ok (x := tI (b.take (b.length - 2))) (.inl rfl) wl (by rw [List.length_take]; omega) h
  have main : ∃ e, B_law_due ⟨[some (tI b), none, none, none, none], h⟩ = .ok (.rt (dueD b)) e ∧ e.h = h := by
    have s1 : du1 ⟨[some (tI b), none, none, none, none], h⟩ = .ok .nx ⟨[some (tI b), some (tI (b.take (b.length - 2))), none, none, none], h⟩ := st_set (st_sl (st_v rfl) (p0 _) (pm _) sl)
    have t := st_be2 (st_call1 (a := 1) (ρ := [some (tI b), some (tI (b.take (b.length - 2))), none, none, none]) rfl lb) (st_v (i := 0) rfl) (eq_tI _ _ h)
    rw [du_u, st_seq s1]
    unfold dueD dueL
    by_cases c : sealB (b.take (b.length - 2)) = b
    · rw [if_pos c]
      rw [decide_eq_true c] at t
      refine ⟨⟨[some (tI b), some (tI (b.take (b.length - 2))), none, none, none], h⟩, st_seqR ((st_if_t t).trans (st_ret (st_tup (st_arg (st_v rfl) (st_arg st_c st_arg0))))), rfl⟩
    · rw [if_neg c]
      rw [decide_eq_false c] at t
      have s2 : du2 ⟨[some (tI b), some (tI (b.take (b.length - 2))), none, none, none], h⟩ = .ok .nx ⟨[some (tI b), some (tI (b.take (b.length - 2))), none, none, none], h⟩ := st_if_nx t
      rw [st_seq s2]
      obtain ⟨b2, b3, b4, e⟩ := rows_ok h3 h16 hw (some (tI (b.take (b.length - 2)))) h (List.range b.length) none none none (fun i hi => by simpa using hi)
      have rl : rng1 (consM (cN lenD (consM (eV 0) nilM)) nilM) ⟨[some (tI b), some (tI (b.take (b.length - 2))), none, none, none], h⟩ = .ok ((List.range b.length).map fun i : Nat => D.int ((i : Nat) : Int)) ⟨[some (tI b), some (tI (b.take (b.length - 2))), none, none, none], h⟩ := by
        rw [← rng_nats]
        refine st_rngI (j := ((b.length : Nat) : Int)) (st_arg ?_ st_arg0) (by omega) (by omega)
        have := st_lenT (f := eV 0) (e := ⟨[some (tI b), some (tI (b.take (b.length - 2))), none, none, none], h⟩) (st_v rfl)
        rw [this]
        simp [wsI]
      have e1 : du3 ⟨[some (tI b), some (tI (b.take (b.length - 2))), none, none, none], h⟩ = _ := st_for rl e
      cases q : (List.range b.length).findSome? (fun i => (List.range 16).findSome? fun k => tryB b i k) with
      | some r =>
        rw [q] at e1
        exact ⟨_, st_seqR e1, rfl⟩
      | none =>
        rw [q] at e1
        exact ⟨_, (st_seq e1).trans (st_ret st_c), rfl⟩
  obtain ⟨e, m, eh⟩ := main
  refine fin_ok (h' := h) (d := dueD b) ?_ (fun k o lk q => .inl q) (Nat.le_refl _) (by simp) ?_
  · rw [← eh]
    exact st_def (ρ := [some (tI b), none, none, none, none]) rfl (eh ▸ m)
  · refine fz_low ?_
    unfold dueD
    cases dueL b with
    | none => rfl
    | some r => exact low_res _ r
end Lk26
set_option autoImplicit false
set_option Elab.async false
set_option linter.all false
set_option maxRecDepth 100000
set_option maxHeartbeats 4000000
namespace Lk26
open PySem PySem.Spec PyProof.Rows L2 Bm Fv LamK
theorem rSyn_lt {b : List Nat} (h3 : 3 ≤ b.length) (h16 : b.length ≤ 16) (hw : ∀ w ∈ b, w < 65536) : rSyn b < 2 ^ 16 := by
  unfold rSyn
  refine Nat.xor_lt_two_pow ?_ ?_
  · have := rowsW_lt (ws := b.take (b.length - 2)) (c := b.getD (b.length - 2) 0) (by rw [List.length_take]; omega)
    omega
  · rw [List.getD_eq_getElem?_getD, List.getElem?_eq_getElem (show b.length - 2 + 1 < b.length by omega)]
    exact hw _ (List.getElem_mem _)
theorem cSyn_lt {b : List Nat} (hw : ∀ w ∈ b, w < 65536) : cSyn b < 2 ^ 16 := cols_lt16 fun w m => hw w (List.mem_of_mem_take m)
theorem bit_lt {n k : Nat} (h : bitsOf n = [k]) (hn : n < 2 ^ 16) : k < 16 := by
  have e := bitsOf_one h
  rw [e] at hn
  exact (Nat.pow_lt_pow_iff_right (by decide)).mp hn
theorem due_mend {b : List Nat} (h3 : 3 ≤ b.length) (h16 : b.length ≤ 16) (hw : ∀ w ∈ b, w < 65536) : dueL b = mendR b := by
  unfold dueL
  have tl : (b.take (b.length - 2)).length = b.length - 2 := by rw [List.length_take]; omega
  by_cases c : sealB (b.take (b.length - 2)) = b
  · rw [if_pos c]
    obtain ⟨s1, s2⟩ := sealB_syn (ws := b.take (b.length - 2)) (by omega)
    rw [c] at s1 s2
    rw [mendR_eq, s1, s2, bitsOf_zero]
    rfl
  · rw [if_neg c]
    cases q : (List.range b.length).findSome? (fun i => (List.range 16).findSome? fun k => tryB b i k) with
    | some r =>
      obtain ⟨i, hi, q1⟩ := List.exists_of_findSome?_eq_some q
      obtain ⟨k, hk, q2⟩ := List.exists_of_findSome?_eq_some q1
      have hi : i < b.length := by simpa using hi
      unfold tryB at q2
      split at q2
      · rename_i s
        cases q2
        have e := flip_flip b i k hi
        have l2 : ((flipB b i k).take (b.length - 2)).length = b.length - 2 := by rw [List.length_take, flipB_len]; omega
        have m := mend_flip (ws := (flipB b i k).take (b.length - 2)) (i := i) (k := k) (by omega) (by omega) (by omega)
        rw [s, e] at m
        rw [m]
      · cases q2
    | none =>
      have no : ∀ i k, i < b.length → k < 16 → ¬ (cSyn (flipB b i k) = 0 ∧ rSyn (flipB b i k) = 0) := fun i k hi hk z => by
        have s := sealed_of (b := flipB b i k) (by rw [flipB_len]; omega) (by rw [flipB_len]; omega) z.1 z.2
        rw [flipB_len] at s
        have q1 := List.findSome?_eq_none_iff.mp q i (by simpa using hi)
        have q2 := List.findSome?_eq_none_iff.mp q1 k (by simpa using hk)
        unfold tryB at q2
        rw [if_pos s.symm] at q2
        cases q2
      refine Eq.symm ?_
      rw [mendR_eq]
      unfold mendC
      have rl := rSyn_lt h3 h16 hw
      have cl := cSyn_lt (b := b) hw
      split
      · rename_i a
        exact absurd (sealed_of (by omega) h16 (bitsOf_nil.mp a.2) (bitsOf_nil.mp a.1)).symm c
      · split
        · rfl
        · rename_i a d
          have dl : (bitsOf (rSyn b)).length = 1 := by
            refine Decidable.byContradiction fun z => d (.inl z)
          have dc : (bitsOf (cSyn b)).length ≤ 1 := Nat.le_of_not_lt fun z => d (.inr z)
          obtain ⟨r, er⟩ := List.length_eq_one_iff.mp dl
          have r16 := bit_lt er rl
          have eR := bitsOf_one er
          rw [er]
          show (if bitsOf (cSyn b) = [] then _ else if r < b.length - 2 then _ else if r ≠ 14 then _ else _) = none
          split
          · rename_i z
            have z0 := bitsOf_nil.mp z
            refine absurd ?_ (no (b.length - 1) r (by omega) r16)
            rw [cSyn_flip h3 (by omega), rSyn_flip h3 h16 (by omega), if_neg (by omega), z0, eR]
            unfold rBit
            rw [if_neg (by omega), if_neg (by omega)]
            exact ⟨Nat.xor_zero 0, Nat.xor_self _⟩
          · rename_i z
            have cl1 : (bitsOf (cSyn b)).length = 1 := by
              have : (bitsOf (cSyn b)).length ≠ 0 := fun y => z (List.eq_nil_of_length_eq_zero y)
              omega
            obtain ⟨k, ek⟩ := List.length_eq_one_iff.mp cl1
            have k16 := bit_lt ek cl
            have eC := bitsOf_one ek
            split
            · rename_i y
              refine absurd ?_ (no r k (by omega) k16)
              rw [cSyn_flip h3 (by omega), rSyn_flip h3 h16 (by omega), if_pos (by omega), eC, eR]
              unfold rBit
              rw [if_pos y]
              exact ⟨Nat.xor_self _, Nat.xor_self _⟩
            · split
              · rfl
              · rename_i y x
                have x : r = 14 := Decidable.byContradiction fun z => x z
                refine absurd ?_ (no (b.length - 2) k (by omega) k16)
                rw [cSyn_flip h3 (by omega), rSyn_flip h3 h16 (by omega), if_pos (by omega), eC, eR]
                unfold rBit
                rw [if_neg (by omega), if_pos rfl, x]
                exact ⟨Nat.xor_self _, Nat.xor_self _⟩
end Lk26
set_option autoImplicit false
set_option Elab.async false
set_option linter.all false
set_option maxRecDepth 100000
set_option maxHeartbeats 4000000
namespace Lk26
open PySem PySem.Spec PyProof.Rows L2 Bm Fv LamK
noncomputable def me1 : M Fl := (exprM (callM F_need_block [] (consM (eV 0) nilM)))
noncomputable def me2 : M Fl := (setM (e2 subD (cN lenD (consM (eV 0) nilM)) (ret (.int (2)))) (putS 1))
noncomputable def me3 : M Fl := (setM (pubM (cO listD (consM (slM (eV 0) (prt none) (prt (some (eV 1)))) nilM))) (putS 2))
noncomputable def me4 : M Fl := (setM (callM F_bits_in [] (consM (callM F_columns_of [] (consM (slM (eV 0) (prt none) (prt (some (e2 addD (eV 1) (ret (.int (1))))))) nilM)) nilM)) (putS 3))
noncomputable def me5 : M Fl := (setM (e2 addD (dropM (lcPC (.tup [4, 7]) [4, 7] (enumC (consM (eV 2) nilM)) (ret true) (e2 shlD (cN intD (consM (callM F_is_odd [] (consM (eV 7) nilM)) nilM)) (eV 4)))) (frzM (lstM (consM (e2 shlD (cN intD (consM (callM F_is_odd [] (consM (e2 ixD (eV 0) (eV 1)) nilM)) nilM)) (ret (.int (14)))) nilM)))) (putS 5))
noncomputable def me6 : M Fl := (setM (callM F_bits_in [] (consM (e2 xorD (cN sumA (consM (eV 5) nilM)) (e2 ixD (eV 0) (e2 addD (eV 1) (ret (.int (1)))))) nilM)) (putS 6))
noncomputable def me7 : M Fl := (ifS (andM (bM (e2 eqD (eV 6) (frzM (lstM nilM)))) (bM (e2 eqD (eV 3) (frzM (lstM nilM))))) (retM (tupM (consM (cN tupleD (consM (eV 2) nilM)) (consM (ret .non) nilM)))) (ret .nx))
noncomputable def me8 : M Fl := (ifS (orM (bM (e2 neD (cN lenD (consM (eV 6) nilM)) (ret (.int (1))))) (bM (e2 gtD (cN lenD (consM (eV 3) nilM)) (ret (.int (1)))))) (raiseM "NoMend") (ret .nx))
noncomputable def me9 : M Fl := (setM (e2 ixD (eV 6) (ret (.int (0)))) (putS 4))
noncomputable def me10 : M Fl := (ifS (bM (e2 eqD (eV 3) (frzM (lstM nilM)))) (retM (tupM (consM (cN tupleD (consM (eV 2) nilM)) (consM (tupM (consM (e2 addD (eV 1) (ret (.int (1)))) (consM (eV 4) nilM))) nilM)))) (ret .nx))
noncomputable def me11 : M Fl := (ifS (bM (e2 ltD (eV 4) (eV 1))) (seqM (augI xorD (eV 2) (eV 4) (e2 shlD (ret (.int (1))) (e2 ixD (eV 3) (ret (.int (0)))))) (retM (tupM (consM (cN tupleD (consM (eV 2) nilM)) (consM (tupM (consM (eV 4) (consM (e2 ixD (eV 3) (ret (.int (0)))) nilM))) nilM))))) (ret .nx))
noncomputable def me12 : M Fl := (ifS (bM (e2 neD (eV 4) (ret (.int (14))))) (raiseM "NoMend") (ret .nx))
noncomputable def me13 : M Fl := (retM (tupM (consM (cN tupleD (consM (eV 2) nilM)) (consM (tupM (consM (eV 1) (consM (e2 ixD (eV 3) (ret (.int (0)))) nilM))) nilM))))
theorem me_u : B_mended = seqM me1 (seqM me2 (seqM me3 (seqM me4 (seqM me5 (seqM me6 (seqM me7 (seqM me8 (seqM me9 (seqM me10 (seqM me11 (seqM me12 me13))))))))))) := rfl
theorem Sq.cutTo {x : D} {b : List Nat} (s : Sq x (wsI b)) (n : Nat) (h : List Ob) : ∃ y, slD h x none (some ((n : Nat) : Int)) = some y ∧ Sq y (wsI (b.take n)) := by
  have e : cut ((wsI b).map D.int) none (some ((n : Nat) : Int)) = (wsI (b.take n)).map D.int := by
    rw [Fv.cut_to (by omega)]
    simp [wsI]
  rcases s with rfl | rfl
  · exact ⟨_, by rw [x_sl1, e], .inl rfl⟩
  · exact ⟨_, by rw [x_sl2, e], .inr rfl⟩
theorem Sq.at {x : D} {b : List Nat} (s : Sq x (wsI b)) {n w : Nat} (q : b[n]? = some w) (h : List Ob) : ixD h x (.int ((n : Nat) : Int)) = some (.int ((w : Nat) : Int)) := by
  have a := wsI_at q
  rcases s with rfl | rfl <;> simpa using a
theorem Sq.seqOf {x : D} {xs : List Int} (s : Sq x xs) (h : List Ob) : Fv.seqOf h x = some (xs.map .int) := by rcases s with rfl | rfl <;> rfl
def gOdd : D → D
  | .tup [.int i, .int w] => .int (((oddB w.toNat).toNat : Int) * 2 ^ i.toNat)
  | d => d
theorem rows_map : ∀ (ws : List Nat) (i : Nat), (((wsI ws).map D.int).mapIdx fun j x => D.tup [.int ((i + j : Nat) : Int), x]).map gOdd = (wsI (rowsA ws i)).map D.int
  | [], _ => rfl
  | w :: ws, i => by
    have ih := rows_map ws (i + 1)
    have hf : (fun (j : Nat) (x : D) => D.tup [.int ((i + 1 + j : Nat) : Int), x]) = fun (j : Nat) (x : D) => D.tup [.int ((i + (j + 1) : Nat) : Int), x] := by
      funext j x
      rw [Nat.add_assoc, Nat.add_comm 1]
    rw [hf] at ih
    show (List.mapIdx _ (D.int ((w : Nat) : Int) :: (wsI ws).map D.int)).map _ = _
    rw [List.mapIdx_cons, List.map_cons, ih]
    show _ = D.int ((((oddB w).toNat * 2 ^ i : Nat)) : Int) :: (wsI (rowsA ws (i + 1))).map D.int
    congr 2
theorem sum_wsI : ∀ ws : List Nat, (wsI ws).sum = ((ws.sum : Nat) : Int)
  | [] => rfl
  | w :: ws => by
    show ((w : Nat) : Int) + (wsI ws).sum = _
    rw [sum_wsI ws, List.sum_cons, Int.natCast_add]
theorem toN (b : Bool) : (if b = true then (1 : Int) else 0) = ((b.toNat : Nat) : Int) := by cases b <;> rfl
theorem shl_odd (b : Bool) {k : Nat} (hk : k ≤ 1000) (h : List Ob) : shlD h (.int (if b = true then (1 : Int) else 0)) (.int ((k : Nat) : Int)) = some (.int (((b.toNat : Nat) : Int) * 2 ^ k)) := by
  rw [x_shl, toN]
  have c : 0 ≤ ((k : Nat) : Int) ∧ ((k : Nat) : Int) ≤ 1000000 ∧ (((b.toNat : Nat) : Int)).natAbs < 2 ^ 64 := by
    refine ⟨by omega, by omega, ?_⟩
    cases b <;> decide
  rw [if_pos c, Int.toNat_natCast]
theorem rows_ok5 {b : List Nat} {x : D} (s : Sq x (wsI b)) (h3 : 3 ≤ b.length) (h16 : b.length ≤ 16) (hw : ∀ w ∈ b, w < 65536) {H : List Ob} {L : Nat} (q : H[L]? = some (.lst ((wsI (b.take (b.length - 2))).map .int))) (a3 a4 a5 a6 a7 : Option D) :
    me5 ⟨[some x, some (.int ((b.length - 2 : Nat) : Int)), some (.ref L), a3, a4, a5, a6, a7], H⟩ = .ok .nx ⟨[some x, some (.int ((b.length - 2 : Nat) : Int)), some (.ref L), a3, a4, some (.lst ((wsI (rowsA (b.take (b.length - 2)) 0 ++ [(oddB (b.getD (b.length - 2) 0)).toNat * 2 ^ 14])).map .int)), a6, a7], H⟩ := by
  have wl : ∀ w ∈ b.take (b.length - 2), w < 65536 := fun w m => hw w (List.mem_of_mem_take m)
  have F := drop_lcC (t := .tup [4, 7]) (vs := [4, 7]) (fi := enumC (consM (eV 2) nilM)) (tt := ret true) (f := e2 shlD (cN intD (consM (callM F_is_odd [] (consM (eV 7) nilM)) nilM)) (eV 4)) (e := ⟨[some x, some (.int ((b.length - 2 : Nat) : Int)), some (.ref L), a3, a4, a5, a6, a7], H⟩) (ds := enumL ((wsI (b.take (b.length - 2))).map .int)) (ch := [(.ref L, (wsI (b.take (b.length - 2))).map .int)])
    (g := gOdd) (by simp [enumC, bnd, lft, q]) (fun u => chk_one1 q) (by simp [enumL, wsI]; omega) (fun d hd => by
      obtain ⟨j, hj, ed⟩ := List.getElem_of_mem hd
      simp only [enumL, List.getElem_mapIdx] at ed
      have hj : j < (b.take (b.length - 2)).length := by simpa [enumL, wsI] using hj
      obtain ⟨w, ew⟩ : ∃ w, w = (b.take (b.length - 2))[j] := ⟨_, rfl⟩
      have hwj : w < 65536 := by rw [ew]; exact wl _ (List.getElem_mem _)
      have e1 : ((wsI (b.take (b.length - 2))).map D.int)[j]'(by simpa [wsI] using hj) = .int ((w : Nat) : Int) := by rw [ew]; simp [wsI]
      rw [e1] at ed
      subst ed
      have jl : j ≤ 1000 := by rw [List.length_take] at hj; omega
      refine ⟨[some x, some (.int ((b.length - 2 : Nat) : Int)), some (.ref L), a3, some (.int ((j : Nat) : Int)), a5, a6, some (.int ((w : Nat) : Int))], by simp [Tg.put, putN, wipeD], fun u => ⟨rfl, ?_⟩⟩
      refine st_e2 (st_cN (st_arg (st_call1 rfl (is_odd_ok (by omega) _)) st_arg0) (x_int2 _)) (st_v rfl) ?_
      show shlD (H ++ u) (.int (if oddB w = true then (1 : Int) else 0)) (.int ((j : Nat) : Int)) = some (.int (((oddB ((w : Nat) : Int).toNat).toNat : Int) * 2 ^ ((j : Nat) : Int).toNat))
      rw [shl_odd _ jl, Int.toNat_natCast, Int.toNat_natCast]) (by
      have := rows_map (b.take (b.length - 2)) 0
      have hf : (fun (j : Nat) (x : D) => D.tup [.int ((0 + j : Nat) : Int), x]) = fun (j : Nat) (x : D) => D.tup [.int ((j : Nat) : Int), x] := by
        funext j x
        rw [Nat.zero_add]
      rw [hf] at this
      unfold enumL
      rw [this]
      exact low_ints _ _)
  have rm := rows_map (b.take (b.length - 2)) 0
  have hf : (fun (j : Nat) (x : D) => D.tup [.int ((0 + j : Nat) : Int), x]) = fun (j : Nat) (x : D) => D.tup [.int ((j : Nat) : Int), x] := by
    funext j x
    rw [Nat.zero_add]
  rw [hf] at rm
  unfold enumL at F
  rw [rm] at F
  have hc : b[b.length - 2]? = some (b.getD (b.length - 2) 0) := by
    rw [List.getD_eq_getElem?_getD, List.getElem?_eq_getElem (show b.length - 2 < b.length by omega)]
    rfl
  have hcl : b.getD (b.length - 2) 0 < 65536 := hw _ (List.mem_of_getElem? hc)
  have ix := s.at hc H
  have so := shl_odd (oddB (b.getD (b.length - 2) 0)) (k := 14) (by decide) H
  have ea : (wsI (rowsA (b.take (b.length - 2)) 0 ++ [(oddB (b.getD (b.length - 2) 0)).toNat * 2 ^ 14])).map D.int = (wsI (rowsA (b.take (b.length - 2)) 0)).map D.int ++ [.int ((((oddB (b.getD (b.length - 2) 0)).toNat : Nat) : Int) * 2 ^ 14)] := by
    simp [wsI]
  rw [ea]
  refine st_set (st_e2 F (st_lst (st_arg (st_e2 (st_cN (st_arg (st_call1A (st_e2 (st_v rfl) (st_v rfl) ix) (is_odd_ok (by omega) _)) st_arg0) (x_int2 _)) st_c so) st_arg0)) ?_)
  refine if_pos (size_le ?_)
  simp [wsI, rowsA_len]
  omega
end Lk26
set_option autoImplicit false
set_option Elab.async false
set_option linter.all false
set_option maxRecDepth 100000
set_option maxHeartbeats 4000000
namespace Lk26
open PySem PySem.Spec PyProof.Rows L2 Bm Fv LamK
theorem flat_wsI (ws : List Nat) : ((wsI ws).map D.int).all flatS = true := by
  rw [List.all_eq_true]
  intro d hd
  obtain ⟨i, _, rfl⟩ := List.mem_map.mp hd
  rfl
theorem emp_wsI (ws : List Nat) : ((wsI ws).map D.int).isEmpty = decide (ws = []) := by cases ws <;> rfl
theorem len_eq1 {ws : List Nat} (h : ws.length = 1) : ws = [ws.getD 0 0] := by
  obtain ⟨a, rfl⟩ := List.length_eq_one_iff.mp h
  rfl
theorem mend_main {x : D} {b : List Nat} (s : Sq x (wsI b)) (h3 : 3 ≤ b.length) (h16 : b.length ≤ 16) (hw : ∀ w ∈ b, w < 65536) (h : List Ob) :
    match mendR b with
    | some r => ∃ e t, B_mended ⟨[some x, none, none, none, none, none, none, none], h⟩ = .ok (.rt (resD r)) e ∧ e.h = h ++ [t]
    | none => ∃ e t, B_mended ⟨[some x, none, none, none, none, none, none, none], h⟩ = .ex "NoMend" [] e ∧ e.h = h ++ [t] := by
  have nb : F_need_block [x] h = .ok .non h := by
    rw [need_block_ok s h, nbR, fb16_none hw (by omega), if_neg (by rw [wsI_len]; omega)]
  have p0 : ∀ e : En, prt none e = .ok none e := fun e => rfl
  have sl := s.lenD h
  rw [wsI_len] at sl
  obtain ⟨n, en⟩ : ∃ n, n = b.length - 2 := ⟨_, rfl⟩
  obtain ⟨y, cy, sy⟩ := s.cutTo n h
  have s1 : me1 ⟨[some x, none, none, none, none, none, none, none], h⟩ = .ok .nx ⟨[some x, none, none, none, none, none, none, none], h⟩ := st_expr (st_call1 rfl nb)
  have s2 : me2 ⟨[some x, none, none, none, none, none, none, none], h⟩ = .ok .nx ⟨[some x, some (.int ((n : Nat) : Int)), none, none, none, none, none, none], h⟩ := by
    refine st_set (st_e2 (st_lenO (st_v rfl) sl) st_c ?_)
    show some (D.int (((b.length : Nat) : Int) - 2)) = _
    congr 2
    omega
  obtain ⟨H, eH⟩ : ∃ H, H = h ++ [Ob.lst ((wsI (b.take n)).map .int)] := ⟨_, rfl⟩
  have s3 : me3 ⟨[some x, some (.int ((n : Nat) : Int)), none, none, none, none, none, none], h⟩ = .ok .nx ⟨[some x, some (.int ((n : Nat) : Int)), some (.ref h.length), none, none, none, none, none], H⟩ := by
    rw [eH]
    exact st_set (st_pubLst (st_arg (st_sl (st_v rfl) (p0 _) (st_prt (st_v rfl)) cy) st_arg0) (sy.seqOf h))
  have qH : H[h.length]? = some (.lst ((wsI (b.take n)).map .int)) := by rw [eH]; simp
  obtain ⟨z, cz, sz⟩ := s.cutTo (n + 1) H
  have cl : cols (b.take (n + 1)) < 2 ^ 16 := cols_lt16 fun w m => hw w (List.mem_of_mem_take m)
  have cS : cSyn b = cols (b.take (n + 1)) := by rw [en]; rfl
  have s4 : me4 ⟨[some x, some (.int ((n : Nat) : Int)), some (.ref h.length), none, none, none, none, none], H⟩ = .ok .nx ⟨[some x, some (.int ((n : Nat) : Int)), some (.ref h.length), some (.lst ((wsI (bitsOf (cSyn b))).map .int)), none, none, none, none], H⟩ := by
    refine st_set (st_call1A (st_call1A (st_sl (st_v rfl) (p0 _) (st_prt (st_e2 (st_v rfl) st_c ?_)) cz) (columns_ok sz.stay H)) ?_)
    · rfl
    · rw [cS]
      exact bits_ok (by omega) H
  have s5 := rows_ok5 s h3 h16 hw (L := h.length) (H := H) (by rw [← en]; exact qH) (some (.lst ((wsI (bitsOf (cSyn b))).map .int))) none none none none
  rw [← en] at s5
  have hm : b[n + 1]? = some (b.getD (n + 1) 0) := by
    rw [List.getD_eq_getElem?_getD, List.getElem?_eq_getElem (show n + 1 < b.length by omega)]
    rfl
  have rS : rSyn b = (rowsA (b.take n) 0 ++ [(oddB (b.getD n 0)).toNat * 2 ^ 14]).sum ^^^ b.getD (n + 1) 0 := by rw [en]; rfl
  have rl := rSyn_lt h3 h16 hw
  obtain ⟨ro, ero⟩ : ∃ ro, ro = rowsA (b.take n) 0 ++ [(oddB (b.getD n 0)).toNat * 2 ^ 14] := ⟨_, rfl⟩
  rw [← ero] at s5 rS
  have s6 : me6 ⟨[some x, some (.int ((n : Nat) : Int)), some (.ref h.length), some (.lst ((wsI (bitsOf (cSyn b))).map .int)), none, some (.lst ((wsI ro).map .int)), none, none], H⟩ = .ok .nx ⟨[some x, some (.int ((n : Nat) : Int)), some (.ref h.length), some (.lst ((wsI (bitsOf (cSyn b))).map .int)), none, some (.lst ((wsI ro).map .int)), some (.lst ((wsI (bitsOf (rSyn b))).map .int)), none], H⟩ := by
    refine st_set (st_call1A (st_e2 (st_cN (st_arg (st_v rfl) st_arg0) (d := .int ((ro.sum : Nat) : Int)) ?_) (st_e2 (st_v rfl) (st_e2 (st_v rfl) st_c rfl) (z := .int ((b.getD (n + 1) 0 : Nat) : Int)) ?_) (z := .int ((rSyn b : Nat) : Int)) ?_) (bits_ok (by omega) H))
    · rw [x_sum2, ints_of, Option.map_some, sum_wsI]
    · exact s.at hm H
    · rw [rS]
      show some (D.int (Builtin.bitXor _ _)) = _
      rw [xor_nn]
  have go : ∀ r : Res Fl, seqM me7 (seqM me8 (seqM me9 (seqM me10 (seqM me11 (seqM me12 me13))))) ⟨[some x, some (.int ((n : Nat) : Int)), some (.ref h.length), some (.lst ((wsI (bitsOf (cSyn b))).map .int)), none, some (.lst ((wsI ro).map .int)), some (.lst ((wsI (bitsOf (rSyn b))).map .int)), none], H⟩ = r → B_mended ⟨[some x, none, none, none, none, none, none, none], h⟩ = r := fun r e => by
    rw [me_u, st_seq s1, st_seq s2, st_seq s3, st_seq s4, st_seq s5, st_seq s6]
    exact e
  have mr : mendR b = mendC n (b.take n) (bitsOf (cSyn b)) (bitsOf (rSyn b)) := by rw [mendR_eq, en]
  rw [mr]
  have cs16 : ∀ k, bitsOf (cSyn b) = [k] → k < 16 := fun k e => bit_lt e (cSyn_lt hw)
  obtain ⟨C, eC⟩ : ∃ C, C = bitsOf (cSyn b) := ⟨_, rfl⟩
  obtain ⟨R, eR⟩ : ∃ R, R = bitsOf (rSyn b) := ⟨_, rfl⟩
  rw [← eC] at cs16
  rw [← eC, ← eR] at go ⊢
  obtain ⟨ws, ew⟩ : ∃ ws, ws = b.take n := ⟨_, rfl⟩
  have wl : ws.length = n := by rw [ew, List.length_take]; omega
  rw [← ew] at qH ⊢
  obtain ⟨O, eO⟩ : ∃ O : Option D, O = some (.lst ((wsI ro).map .int)) := ⟨_, rfl⟩
  rw [← eO] at go
  have tt : ∀ G : List Ob, ∀ vs : List Nat, G[h.length]? = some (.lst ((wsI vs).map .int)) → tupleD G [.ref h.length] = some (tI vs) := fun G vs q => by simp [q]
  have cC : ∀ (G : List Ob) (vs : List Nat), eqD G (.lst ((wsI vs).map .int)) (.lst []) = some (.bl (decide (vs = []))) := fun G vs => by rw [eq_lnil (flat_wsI vs), emp_wsI]
  unfold mendC
  -- nothing turned
  have t7 : ∀ a4 : Option D, (andM (bM (e2 eqD (eV 6) (frzM (lstM nilM)))) (bM (e2 eqD (eV 3) (frzM (lstM nilM))))) ⟨[some x, some (.int ((n : Nat) : Int)), some (.ref h.length), some (.lst ((wsI C).map .int)), a4, O, some (.lst ((wsI R).map .int)), none], H⟩ = .ok (decide (R = []) && decide (C = [])) ⟨[some x, some (.int ((n : Nat) : Int)), some (.ref h.length), some (.lst ((wsI C).map .int)), a4, O, some (.lst ((wsI R).map .int)), none], H⟩ := fun a4 => by
    have q1 := st_be2 (st_v (i := 6) (ρ := [some x, some (.int ((n : Nat) : Int)), some (.ref h.length), some (.lst ((wsI C).map .int)), a4, O, some (.lst ((wsI R).map .int)), none]) (h := H) rfl) (st_lst st_arg0) (cC H R)
    have q2 := st_be2 (st_v (i := 3) (ρ := [some x, some (.int ((n : Nat) : Int)), some (.ref h.length), some (.lst ((wsI C).map .int)), a4, O, some (.lst ((wsI R).map .int)), none]) (h := H) rfl) (st_lst st_arg0) (cC H C)
    by_cases c : R = []
    · rw [decide_eq_true c] at q1 ⊢
      exact (st_and_t q1).trans q2
    · rw [decide_eq_false c] at q1 ⊢
      exact st_and_f q1
  by_cases a : R = [] ∧ C = []
  · rw [if_pos a]
    refine ⟨⟨[some x, some (.int ((n : Nat) : Int)), some (.ref h.length), some (.lst ((wsI C).map .int)), none, O, some (.lst ((wsI R).map .int)), none], H⟩, _, go _ ?_, eH⟩
    refine st_seqR ((st_if_t ((t7 none).trans (by rw [decide_eq_true a.1, decide_eq_true a.2]; rfl))).trans ?_)
    exact st_ret (st_tup (st_arg (st_cN (st_arg (st_v rfl) st_arg0) (tt H ws qH)) (st_arg st_c st_arg0)))
  · rw [if_neg a]
    have s7 : me7 ⟨[some x, some (.int ((n : Nat) : Int)), some (.ref h.length), some (.lst ((wsI C).map .int)), none, O, some (.lst ((wsI R).map .int)), none], H⟩ = .ok .nx ⟨[some x, some (.int ((n : Nat) : Int)), some (.ref h.length), some (.lst ((wsI C).map .int)), none, O, some (.lst ((wsI R).map .int)), none], H⟩ :=
      st_if_nx ((t7 none).trans (by
        congr 1
        rw [← Bool.decide_and]
        exact decide_eq_false a))
    have l1 := st_be2 (st_len (st_v (i := 6) (ρ := [some x, some (.int ((n : Nat) : Int)), some (.ref h.length), some (.lst ((wsI C).map .int)), none, O, some (.lst ((wsI R).map .int)), none]) (h := H) rfl)) (st_c (d := .int 1)) (g := neD) (b := !decide (R.length = 1)) (by
      have e : (((wsI R).map D.int).length : Int) = ((R.length : Nat) : Int) := by simp [wsI]
      rw [e]
      show some (D.bl (!decide (((R.length : Nat) : Int) = 1))) = _
      congr 3
      exact decide_eq_decide.mpr (by omega))
    have l2 := st_be2 (st_len (st_v (i := 3) (ρ := [some x, some (.int ((n : Nat) : Int)), some (.ref h.length), some (.lst ((wsI C).map .int)), none, O, some (.lst ((wsI R).map .int)), none]) (h := H) rfl)) (st_c (d := .int 1)) (g := gtD) (b := decide (1 < C.length)) (by
      have e : (((wsI C).map D.int).length : Int) = ((C.length : Nat) : Int) := by simp [wsI]
      rw [e]
      show some (D.bl (decide ((1 : Int) < ((C.length : Nat) : Int)))) = _
      congr 2
      exact decide_eq_decide.mpr (by omega))
    by_cases d : R.length ≠ 1 ∨ 1 < C.length
    · rw [if_pos d]
      refine ⟨⟨[some x, some (.int ((n : Nat) : Int)), some (.ref h.length), some (.lst ((wsI C).map .int)), none, O, some (.lst ((wsI R).map .int)), none], H⟩, _, go _ ((st_seq s7).trans (st_seqX (e' := ⟨[some x, some (.int ((n : Nat) : Int)), some (.ref h.length), some (.lst ((wsI C).map .int)), none, O, some (.lst ((wsI R).map .int)), none], H⟩) ?_)), eH⟩
      refine (st_if_t ?_).trans st_raise
      by_cases dd : R.length = 1
      · rw [decide_eq_true dd] at l1
        refine (st_or_f l1).trans ?_
        rw [decide_eq_true (by omega : 1 < C.length)] at l2
        exact l2
      · rw [decide_eq_false dd] at l1
        exact st_or_t l1
    · rw [if_neg d]
      have dR : R.length = 1 := Decidable.byContradiction fun z => d (.inl z)
      have dC : C.length ≤ 1 := Nat.le_of_not_lt fun z => d (.inr z)
      rw [decide_eq_true dR] at l1
      rw [decide_eq_false (by omega : ¬ 1 < C.length)] at l2
      have s8 : me8 ⟨[some x, some (.int ((n : Nat) : Int)), some (.ref h.length), some (.lst ((wsI C).map .int)), none, O, some (.lst ((wsI R).map .int)), none], H⟩ = .ok .nx ⟨[some x, some (.int ((n : Nat) : Int)), some (.ref h.length), some (.lst ((wsI C).map .int)), none, O, some (.lst ((wsI R).map .int)), none], H⟩ := st_if_nx ((st_or_f l1).trans l2)
      obtain ⟨r, er⟩ : ∃ r, r = R.getD 0 0 := ⟨_, rfl⟩
      have eRr : R = [r] := by rw [er]; exact len_eq1 dR
      rw [← er]
      have s9 : me9 ⟨[some x, some (.int ((n : Nat) : Int)), some (.ref h.length), some (.lst ((wsI C).map .int)), none, O, some (.lst ((wsI R).map .int)), none], H⟩ = .ok .nx ⟨[some x, some (.int ((n : Nat) : Int)), some (.ref h.length), some (.lst ((wsI C).map .int)), some (.int ((r : Nat) : Int)), O, some (.lst ((wsI R).map .int)), none], H⟩ := by
        refine st_set (st_e2 (st_v rfl) st_c ?_)
        rw [eRr]
        rfl
      obtain ⟨Q, eQ⟩ : ∃ Q : Option D, Q = some (.lst ((wsI R).map .int)) := ⟨_, rfl⟩
      have go2 : ∀ res : Res Fl, seqM me10 (seqM me11 (seqM me12 me13)) ⟨[some x, some (.int ((n : Nat) : Int)), some (.ref h.length), some (.lst ((wsI C).map .int)), some (.int ((r : Nat) : Int)), O, Q, none], H⟩ = res → B_mended ⟨[some x, none, none, none, none, none, none, none], h⟩ = res := fun res e => go _ (by
        rw [st_seq s7, st_seq s8, st_seq s9, ← eQ]
        exact e)
      have t10 := st_be2 (st_v (i := 3) (ρ := [some x, some (.int ((n : Nat) : Int)), some (.ref h.length), some (.lst ((wsI C).map .int)), some (.int ((r : Nat) : Int)), O, Q, none]) (h := H) rfl) (st_lst st_arg0) (cC H C)
      by_cases f : C = []
      · rw [if_pos f]
        rw [decide_eq_true f] at t10
        refine ⟨⟨[some x, some (.int ((n : Nat) : Int)), some (.ref h.length), some (.lst ((wsI C).map .int)), some (.int ((r : Nat) : Int)), O, Q, none], H⟩, _, go2 _ (st_seqR ((st_if_t t10).trans ?_)), eH⟩
        exact st_ret (st_tup (st_arg (st_cN (st_arg (st_v rfl) st_arg0) (tt H ws qH)) (st_arg (st_tup (st_arg (st_e2 (st_v rfl) st_c rfl) (st_arg (st_v rfl) st_arg0))) st_arg0)))
      · rw [if_neg f]
        rw [decide_eq_false f] at t10
        have s10 : me10 ⟨[some x, some (.int ((n : Nat) : Int)), some (.ref h.length), some (.lst ((wsI C).map .int)), some (.int ((r : Nat) : Int)), O, Q, none], H⟩ = .ok .nx ⟨[some x, some (.int ((n : Nat) : Int)), some (.ref h.length), some (.lst ((wsI C).map .int)), some (.int ((r : Nat) : Int)), O, Q, none], H⟩ := st_if_nx t10
        have cl1 : C.length = 1 := by
          have : C.length ≠ 0 := fun y => f (List.eq_nil_of_length_eq_zero y)
          omega
        obtain ⟨c, ec⟩ : ∃ c, c = C.getD 0 0 := ⟨_, rfl⟩
        have eCc : C = [c] := by rw [ec]; exact len_eq1 cl1
        have c16 := cs16 c eCc
        rw [← ec]
        have i3 : ∀ G : List Ob, ixD G (.lst ((wsI C).map .int)) (.int 0) = some (.int ((c : Nat) : Int)) := fun G => by rw [eCc]; rfl
        have t11 := st_be2 (st_v (i := 4) (ρ := [some x, some (.int ((n : Nat) : Int)), some (.ref h.length), some (.lst ((wsI C).map .int)), some (.int ((r : Nat) : Int)), O, Q, none]) (h := H) rfl) (st_v (i := 1) rfl) (g := ltD) (b := decide (r < n)) (by
          show some (D.bl (decide (((r : Nat) : Int) < ((n : Nat) : Int)))) = _
          congr 2
          exact decide_eq_decide.mpr (by omega))
        by_cases g : r < n
        · rw [if_pos g]
          rw [decide_eq_true g] at t11
          have hr : ws[r]? = some (ws.getD r 0) := by
            rw [List.getD_eq_getElem?_getD, List.getElem?_eq_getElem (show r < ws.length by omega)]
            rfl
          obtain ⟨w, eww⟩ : ∃ w, w = ws.getD r 0 := ⟨_, rfl⟩
          rw [← eww] at hr ⊢
          have qr := wsI_at hr
          have sh : shlD H (.int 1) (.int ((c : Nat) : Int)) = some (.int ((1 * 2 ^ c : Nat) : Int)) := by
            rw [x_shl, if_pos ⟨by omega, by omega, by decide⟩, Int.toNat_natCast, Int.natCast_mul, Int.natCast_pow]
            rfl
          obtain ⟨P, eP⟩ : ∃ P, P = 1 * 2 ^ c := ⟨_, rfl⟩
          rw [← eP] at sh ⊢
          have ee : (wsI (ws.set r (w ^^^ P))).map D.int = ((wsI ws).map D.int).set r (.int ((w ^^^ P : Nat) : Int)) := by
            simp [wsI, List.map_set]
          have lw : ((wsI ws).map D.int).length = ws.length := by simp [wsI]
          have ixn : ixN ((wsI ws).map D.int).length ((r : Nat) : Int) = some r := by
            unfold ixN
            rw [if_pos (by omega), if_pos (by rw [lw]; omega), Int.toNat_natCast]
          have au : augI xorD (eV 2) (eV 4) (e2 shlD (ret (.int (1))) (e2 ixD (eV 3) (ret (.int (0))))) ⟨[some x, some (.int ((n : Nat) : Int)), some (.ref h.length), some (.lst ((wsI C).map .int)), some (.int ((r : Nat) : Int)), O, Q, none], H⟩ = .ok .nx ⟨[some x, some (.int ((n : Nat) : Int)), some (.ref h.length), some (.lst ((wsI C).map .int)), some (.int ((r : Nat) : Int)), O, Q, none], H.set h.length (.lst ((wsI (ws.set r (w ^^^ P))).map .int))⟩ := by
            rw [ee]
            have v2 : e2 shlD (ret (.int (1))) (e2 ixD (eV 3) (ret (.int (0)))) ⟨[some x, some (.int ((n : Nat) : Int)), some (.ref h.length), some (.lst ((wsI C).map .int)), some (.int ((r : Nat) : Int)), O, Q, none], H⟩ = .ok (.int ((P : Nat) : Int)) ⟨[some x, some (.int ((n : Nat) : Int)), some (.ref h.length), some (.lst ((wsI C).map .int)), some (.int ((r : Nat) : Int)), O, Q, none], H⟩ := st_e2 st_c (st_e2 (st_v rfl) st_c (i3 H)) sh
            obtain ⟨V, eV'⟩ : ∃ V, V = e2 shlD (ret (.int (1))) (e2 ixD (eV 3) (ret (.int (0)))) := ⟨_, rfl⟩
            rw [← eV'] at v2 ⊢
            have xx := xor_nn w P
            rw [List.length_map] at ixn
            simp [qH, qr, v2, xx, ixn]
          refine ⟨⟨[some x, some (.int ((n : Nat) : Int)), some (.ref h.length), some (.lst ((wsI C).map .int)), some (.int ((r : Nat) : Int)), O, Q, none], H.set h.length (.lst ((wsI (ws.set r (w ^^^ P))).map .int))⟩, .lst ((wsI (ws.set r (w ^^^ P))).map .int), go2 _ ((st_seq s10).trans (st_seqR ((st_if_t t11).trans ((st_seq au).trans ?_)))), ?_⟩
          · refine st_ret (st_tup (st_arg (st_cN (st_arg (st_v rfl) st_arg0) (tt _ _ (at_set qH _))) (st_arg (st_tup (st_arg (st_v rfl) (st_arg (st_e2 (st_v rfl) st_c (i3 _)) st_arg0))) st_arg0)))
          · rw [eH]
            simp
        · rw [if_neg g]
          rw [decide_eq_false g] at t11
          have s11 : me11 ⟨[some x, some (.int ((n : Nat) : Int)), some (.ref h.length), some (.lst ((wsI C).map .int)), some (.int ((r : Nat) : Int)), O, Q, none], H⟩ = .ok .nx ⟨[some x, some (.int ((n : Nat) : Int)), some (.ref h.length), some (.lst ((wsI C).map .int)), some (.int ((r : Nat) : Int)), O, Q, none], H⟩ := st_if_nx t11
          have t12 := st_be2 (st_v (i := 4) (ρ := [some x, some (.int ((n : Nat) : Int)), some (.ref h.length), some (.lst ((wsI C).map .int)), some (.int ((r : Nat) : Int)), O, Q, none]) (h := H) rfl) (st_c (d := .int 14)) (g := neD) (b := !decide (r = 14)) (by
            show some (D.bl (!decide (((r : Nat) : Int) = 14))) = _
            congr 3
            exact decide_eq_decide.mpr (by omega))
          by_cases k : r = 14
          · rw [if_neg (fun z => z k)]
            rw [decide_eq_true k] at t12
            refine ⟨⟨[some x, some (.int ((n : Nat) : Int)), some (.ref h.length), some (.lst ((wsI C).map .int)), some (.int ((r : Nat) : Int)), O, Q, none], H⟩, _, go2 _ ((st_seq s10).trans ((st_seq s11).trans ((st_seq (st_if_nx t12)).trans ?_))), eH⟩
            exact st_ret (st_tup (st_arg (st_cN (st_arg (st_v rfl) st_arg0) (tt H ws qH)) (st_arg (st_tup (st_arg (st_v rfl) (st_arg (st_e2 (st_v rfl) st_c (i3 H)) st_arg0))) st_arg0)))
          · rw [if_pos k]
            rw [decide_eq_false k] at t12
            exact ⟨⟨[some x, some (.int ((n : Nat) : Int)), some (.ref h.length), some (.lst ((wsI C).map .int)), some (.int ((r : Nat) : Int)), O, Q, none], H⟩, _, go2 _ ((st_seq s10).trans ((st_seq s11).trans (st_seqX ((st_if_t t12).trans st_raise)))), eH⟩
theorem mended_good {x : D} {b : List Nat} (s : Sq x (wsI b)) (h3 : 3 ≤ b.length) (h16 : b.length ≤ 16) (hw : ∀ w ∈ b, w < 65536) (h : List Ob) : F_mended [x] h = (match mendR b with
    | some r => .ok (resD r) h
    | none => .ex "NoMend" [] h) := by
  have m := mend_main s h3 h16 hw h
  cases q : mendR b with
  | some r =>
    rw [q] at m
    obtain ⟨e, t, m, eh⟩ := m
    refine fin_ok (h' := e.h) (d := resD r) (st_def (ρ := [some x, none, none, none, none, none, none, none]) rfl m) ?_ (by rw [eh]; simp) (by rw [eh]; simp) (fz_low (low_res _ r))
    rw [eh]
    exact drops_app
  | none =>
    rw [q] at m
    obtain ⟨e, t, m, eh⟩ := m
    refine fin_ex (h' := e.h) (st_defX (ρ := [some x, none, none, none, none, none, none, none]) rfl m) ?_ (by rw [eh]; simp) (by rw [eh]; simp) rfl
    rw [eh]
    exact drops_app
theorem mended_bad {x : D} {xs : List Int} (s : Sq x xs) {k : Nat} (h : List Ob) (nb : nbR h xs = .ex "BadImage" [("number", .int ((k : Nat) : Int))] h) : F_mended [x] h = .ex "BadImage" [("number", .int ((k : Nat) : Int))] h := by
  have s1 : me1 ⟨[some x, none, none, none, none, none, none, none], h⟩ = .ex "BadImage" [("number", .int ((k : Nat) : Int))] ⟨[some x, none, none, none, none, none, none, none], h⟩ := st_exprX (st_call1X rfl ((need_block_ok s h).trans nb))
  refine fin_ex (h' := h) (st_defX (ρ := [some x, none, none, none, none, none, none, none]) (e := ⟨[some x, none, none, none, none, none, none, none], h⟩) rfl ?_) (fun k o lk q => .inl q) (Nat.le_refl _) (by simp) rfl
  rw [me_u]
  exact st_seqX s1
end Lk26
set_option autoImplicit false
set_option Elab.async false
set_option linter.all false
set_option maxRecDepth 100000
set_option maxHeartbeats 4000000
namespace Lk26
open PySem PySem.Spec PyProof.Rows L2 Bm Fv LamK
def DrC (o : Ob) : Prop := ∃ (ns : List Int) (p x c : Int), o = .lst [.scr (ns.map D.int), .int p, .int x, .int c] ∧ 0 ≤ p ∧ 0 ≤ x ∧ x < 2147483647 ∧ 0 ≤ c
theorem drawn_ok {h : List Ob} {st : Nat} {o : Ob} (q : h[st]? = some o) (d : DrC o) {m : Int} (hm : 0 < m) (hl : m.natAbs.log2 < 9000) :
    ∃ r o', F_law_drawn [.ref st, .int m] h = .ok (.int r) (h.set st o') ∧ 0 ≤ r ∧ r < m ∧ DrC o' := by
  obtain ⟨ns, p, x, c, rfl, hp, hx0, hx1, hc⟩ := d
  by_cases h3 : 0 < c
  · refine ⟨c % m, .lst [.scr (ns.map D.int), .int p, .int x, .int (c / m)], ?_, Int.emod_nonneg _ (by omega), Int.emod_lt_of_pos _ hm, ns, p, x, c / m, rfl, hp, hx0, hx1, Int.ediv_nonneg hc (by omega)⟩
    simp [F_law_drawn, B_law_drawn, q, ixN, h3, hm, hl]
  · by_cases h1 : p + 1 ≤ ns.length
    · have hpl : p.toNat < ns.length := by omega
      have ea : atI (ns.map D.int) p = some (.int ns[p.toNat]) := atI_of hp (by simp [hpl])
      by_cases h2 : (1000000000000000000 : Int) ≤ ns[p.toNat]
      · refine ⟨ns[p.toNat] % m, .lst [.scr (ns.map D.int), .int (p + 1), .int x, .int (ns[p.toNat] / m)], ?_, Int.emod_nonneg _ (by omega), Int.emod_lt_of_pos _ hm, ns, p + 1, x, _, rfl, by omega, hx0, hx1, Int.ediv_nonneg (by omega) (by omega)⟩
        simp [F_law_drawn, B_law_drawn, q, at_set q, ixN, h3, hm, hl, h1, ea, h2]
      · refine ⟨ns[p.toNat] % m, .lst [.scr (ns.map D.int), .int (p + 1), .int x, .int 0], ?_, Int.emod_nonneg _ (by omega), Int.emod_lt_of_pos _ hm, ns, p + 1, x, _, rfl, by omega, hx0, hx1, by omega⟩
        simp [F_law_drawn, B_law_drawn, q, at_set q, ixN, h3, hm, hl, h1, ea, h2]
    · have hm2 : CMul x 48271 := .inr (by omega)
      have l7 : Nat.log2 7 < 9000 := by decide +kernel
      refine ⟨(x * 48271 + 11) % 2147483647 / 7 % m, .lst [.scr (ns.map D.int), .int (p + 1), .int ((x * 48271 + 11) % 2147483647), .int c], ?_, Int.emod_nonneg _ (by omega), Int.emod_lt_of_pos _ hm, ns, p + 1, _, _, rfl, by omega, Int.emod_nonneg _ (by omega), Int.emod_lt_of_pos _ (by omega), hc⟩
      simp [F_law_drawn, B_law_drawn, q, at_set q, ixN, h3, hm, hl, h1, hm2, l7]
/-- where drawing stands -/
def StD (st : Nat) (h : List Ob) : Prop := ∃ o, h[st]? = some o ∧ DrC o
def Keep (st : Nat) (h h' : List Ob) : Prop := h'.length = h.length ∧ ∀ k, k ≠ st → h'[k]? = h[k]?
theorem Keep.trans {st : Nat} {a b c : List Ob} (x : Keep st a b) (y : Keep st b c) : Keep st a c := ⟨y.1.trans x.1, fun k hk => (y.2 k hk).trans (x.2 k hk)⟩
theorem log_small {m : Int} (h0 : 0 < m) (h1 : m ≤ 1000000) : m.natAbs.log2 < 9000 := by
  have : m.natAbs.log2 < 20 := (Nat.log2_lt (by omega)).mpr (by omega)
  omega
theorem draw {st : Nat} {h : List Ob} (S : StD st h) (m : Int) (hm : 0 < m) (hl : m ≤ 1000000) : ∃ r h', F_law_drawn [.ref st, .int m] h = .ok (.int r) h' ∧ 0 ≤ r ∧ r < m ∧ StD st h' ∧ Keep st h h' := by
  obtain ⟨o, q, d⟩ := S
  obtain ⟨r, o', e, h1, h2, d'⟩ := drawn_ok q d hm (log_small hm hl)
  exact ⟨r, _, e, h1, h2, ⟨o', at_set q o', d'⟩, by simp, fun k hk => by simp [List.getElem?_set, Ne.symm hk]⟩
/-- all but the draws' state stays; more may be there -/
def Ext (st : Nat) (h h' : List Ob) : Prop := h.length ≤ h'.length ∧ ∀ k, k < h.length → k ≠ st → h'[k]? = h[k]?
theorem Keep.ext {st : Nat} {h h' : List Ob} (k : Keep st h h') : Ext st h h' := ⟨Nat.le_of_eq k.1.symm, fun j _ n => k.2 j n⟩
theorem Ext.refl {st : Nat} {h : List Ob} : Ext st h h := ⟨Nat.le_refl _, fun _ _ _ => rfl⟩
theorem Ext.trans {st : Nat} {a b c : List Ob} (x : Ext st a b) (y : Ext st b c) : Ext st a c := ⟨Nat.le_trans x.1 y.1, fun k hk n => (y.2 k (Nat.lt_of_lt_of_le hk x.1) n).trans (x.2 k hk n)⟩
theorem Ext.app {st : Nat} {h t : List Ob} : Ext st h (h ++ t) := ⟨by simp, fun k hk _ => List.getElem?_append_left hk⟩
theorem StD.lt {st : Nat} {h : List Ob} (S : StD st h) : st < h.length := by
  obtain ⟨o, q, _⟩ := S
  exact (List.getElem?_eq_some_iff.mp q).1
theorem StD.app {st : Nat} {h t : List Ob} (S : StD st h) : StD st (h ++ t) := by
  have := S.lt
  obtain ⟨o, q, d⟩ := S
  exact ⟨o, by rw [List.getElem?_append_left this]; exact q, d⟩
theorem StD.set {st k : Nat} {h : List Ob} {o : Ob} (S : StD st h) (n : k ≠ st) : StD st (h.set k o) := by
  obtain ⟨x, q, d⟩ := S
  exact ⟨x, by rw [List.getElem?_set_ne n]; exact q, d⟩
theorem Keep.at {st L : Nat} {h h' : List Ob} {o : Option Ob} (k : Keep st h h') (n : L ≠ st) (q : h[L]? = o) : h'[L]? = o := (k.2 L n).trans q
structure Two (st L : Nat) (h h' : List Ob) : Prop where
  len : h'.length = h.length
  at_ : ∀ k, k ≠ st → k ≠ L → h'[k]? = h[k]?
theorem Two.trans {st L : Nat} {a b c : List Ob} (x : Two st L a b) (y : Two st L b c) : Two st L a c := ⟨y.len.trans x.len, fun k h1 h2 => (y.at_ k h1 h2).trans (x.at_ k h1 h2)⟩
theorem Keep.two {st L : Nat} {h h' : List Ob} (k : Keep st h h') : Two st L h h' := ⟨k.1, fun j h1 _ => k.2 j h1⟩
theorem two_set {st L : Nat} {h : List Ob} {o : Ob} : Two st L h (h.set L o) := ⟨by simp, fun k _ n => by rw [List.getElem?_set_ne (Ne.symm n)]⟩
theorem lc_gen {st : Nat} {P : D → Prop} {t : Tg} {F : M D} {ρ : List (Option D)} {h0 : List Ob} (L : Nat) (nL : L ≠ st) (lL : h0.length ≤ L) : ∀ (ds : List D) (h : List Ob) (us : List D), (∀ d ∈ ds, ∃ ρ1, t.put d ρ = some ρ1 ∧ ∀ H, StD st H → Ext st h0 H → ∃ r H', F ⟨ρ1, H⟩ = .ok r ⟨ρ1, H'⟩ ∧ P r ∧ StD st H' ∧ Keep st H H') → StD st h → Ext st h0 h → h[L]? = some (.lst us) → us.length + ds.length ≤ 1000 → (∀ u ∈ us, P u) →
    ∃ (us' : List D) (h' : List Ob), lcL t (ret true) F ρ L ds h = some h' ∧ h'[L]? = some (.lst us') ∧ us'.length = us.length + ds.length ∧ (∀ u ∈ us', P u) ∧ StD st h' ∧ Two st L h h'
  | [], h, us, _, S, X, q, hl, hv => ⟨us, h, rfl, q, by simp, hv, S, ⟨rfl, fun _ _ _ => rfl⟩⟩
  | d :: ds, h, us, hi, S, X, q, hl, hv => by
    obtain ⟨ρ1, p1, g⟩ := hi d (.head _)
    obtain ⟨r, h1, e1, pr, S1, K1⟩ := g h S X
    have ql := K1.at nL q
    simp only [List.length_cons] at hl
    have X1 : Ext st h0 (h1.set L (.lst (us ++ [r]))) := ⟨by rw [List.length_set, K1.1]; exact X.1, fun k hk n => by rw [List.getElem?_set_ne (by omega), K1.2 k n, X.2 k hk n]⟩
    obtain ⟨us', h', e, q', l', hv', S', t'⟩ := lc_gen L nL lL ds (h1.set L (.lst (us ++ [r]))) (us ++ [r]) (fun d hd => hi d (.tail _ hd)) (S1.set nL) X1 (at_set ql _) (by simp; omega) (fun v m => (List.mem_append.mp m).elim (hv v) (fun m => by rw [List.mem_singleton.mp m]; exact pr))
    refine ⟨us', h', ?_, q', by rw [l']; simp; omega, hv', S', (K1.two.trans two_set).trans t'⟩
    unfold lcL
    rw [p1]
    dsimp only [Fv.ret]
    rw [e1]
    dsimp only
    rw [ql]
    dsimp only
    rw [if_pos (by omega)]
    exact e
theorem low_intsG (n : Nat) (l : List Int) : lows n (l.map D.int) = true := by
  induction l with
  | nil => simp [lows]
  | cons a l ih => simp [lows, low, ih]
theorem drC_lowG {n : Nat} {o : Ob} (d : DrC o) : lowO n o = true := by
  obtain ⟨ns, p, x, c, rfl, _⟩ := d
  simp [lowO, lows, low, low_intsG]
theorem lows_of {P : D → Prop} (lp : ∀ d, P d → low 0 d = true) : ∀ {us : List D}, (∀ u ∈ us, P u) → lows 0 us = true
  | [], _ => by simp [lows]
  | u :: us, a => by simp [lows, lp u (a u (.head _)), lows_of lp fun v hv => a v (.tail _ hv)]
theorem drop_gen {st : Nat} {P : D → Prop} (lp : ∀ d, P d → low 0 d = true) {t : Tg} {vs : List Nat} {fi : M (List D)} {F : M D} {ρ : List (Option D)} {hh h : List Ob} (S : StD st h) (K0 : Keep st hh h) {ds : List D} (qi : fi ⟨ρ, hh⟩ = .ok ds ⟨ρ, h⟩) (hl : ds.length ≤ 1000)
    (hi : ∀ d ∈ ds, ∃ ρ1, t.put d (wipeD ρ vs) = some ρ1 ∧ ∀ H, StD st H → Ext st h H → ∃ r H', F ⟨ρ1, H⟩ = .ok r ⟨ρ1, H'⟩ ∧ P r ∧ StD st H' ∧ Keep st H H') :
    ∃ (us : List D) (h' : List Ob), dropM (lcP t vs fi (ret true) F) ⟨ρ, hh⟩ = .ok (.lst us) ⟨ρ, h'⟩ ∧ us.length = ds.length ∧ (∀ u ∈ us, P u) ∧ StD st h' ∧ Keep st hh h' := by
  have nL : h.length ≠ st := Nat.ne_of_gt S.lt
  have l0 := K0.1
  obtain ⟨us, h2, e, q, l, hv, S2, t2⟩ := lc_gen (h0 := h) h.length nL (Nat.le_refl _) ds (h ++ [.lst []]) [] hi S.app Ext.app (by simp) (by simp; omega) (by simp)
  have len2 : h2.length = h.length + 1 := by rw [t2.len]; simp
  have at2 : ∀ k, k < h.length → k ≠ st → h2[k]? = h[k]? := fun k hk n => by rw [t2.at_ k n (by omega), List.getElem?_append_left hk]
  refine ⟨us, h2.take h.length, ?_, by simpa using l, hv, ?_, by rw [List.length_take]; omega, fun k n => ?_⟩
  · unfold dropM
    have e' : lcP t vs fi (ret true) F ⟨ρ, hh⟩ = .ok (.ref h.length) ⟨ρ, h2⟩ := by
      unfold lcP bnd
      rw [qi]
      dsimp only
      rw [e]
    rw [e']
    dsimp only
    have dr : Drops hh h2 := fun k o hk z => by
      by_cases n : k = st
      · subst n
        obtain ⟨o', q', d'⟩ := S2
        rw [q'] at z
        cases z
        exact .inr (drC_lowG d')
      · rw [at2 k (by omega) n, K0.2 k n] at z
        exact .inl z
    have fzz : fz h2 h.length (.ref h.length) = some (.lst us) := by
      show fzW _ _ _ _ = _
      simp only [fzW, Nat.lt_irrefl, if_false, q]
      rw [mapO_low (lows_zero (lows_of lp hv))]
      rfl
    rw [if_pos ⟨dr, by show hh.length ≤ h2.length; omega, rfl⟩]
    show (match fz h2 hh.length (.ref h.length) with
      | some d' => Res.ok d' ⟨ρ, h2.take hh.length⟩
      | none => .stuck) = _
    rw [← l0, fzz]
  · obtain ⟨o', q', d'⟩ := S2
    exact ⟨o', by rw [List.getElem?_take, if_pos S.lt]; exact q', d'⟩
  · rw [List.getElem?_take, ← K0.2 k n]
    split
    · rename_i hk
      exact at2 k hk n
    · rename_i hk
      rw [List.getElem?_eq_none (by omega)]
theorem mixed_ok (cs : List Int) : ∀ (ns : List Int) (x : Int) (a2 : Option D), 0 ≤ x → x < 2147483647 → ∃ y a2', 0 ≤ y ∧ y < 2147483647 ∧ forL (putS 2) (setM (e2 modD (e2 addD (e2 addD (e2 mulA (eV 1) (ret (.int (48271)))) (eV 2)) (ret (.int (7)))) (ret (.int (2147483647)))) (putS 1)) (ns.map D.int) ⟨[some (.scr (cs.map D.int)), some (.int x), a2], []⟩ = .ok .nx ⟨[some (.scr (cs.map D.int)), some (.int y), a2'], []⟩
  | [], x, a2, h0, h1 => ⟨x, a2, h0, h1, rfl⟩
  | n :: ns, x, a2, h0, h1 => by
    obtain ⟨y, a2', y0, y1, e⟩ := mixed_ok cs ns ((x * 48271 + n + 7) % 2147483647) (some (.int n)) (Int.emod_nonneg _ (by decide)) (Int.emod_lt_of_pos _ (by decide))
    refine ⟨y, a2', y0, y1, ?_⟩
    rw [← e]
    have cm : CMul x 48271 := .inr (by omega)
    simp [cm]
theorem start_ok (ns : List Int) : ∃ x : Int, 0 ≤ x ∧ x < 2147483647 ∧ F_law_start [.scr (ns.map D.int)] [] = .ok (.ref 0) [.lst [.scr (ns.map D.int), .int 0, .int x, .int 0]] := by
  obtain ⟨y, a2', y0, y1, e⟩ := mixed_ok ns ns 1 none (by decide) (by decide)
  refine ⟨y, y0, y1, ?_⟩
  simp [F_law_start, B_law_start, stayOf, e]
theorem start_st (ns : List Int) : ∃ h0, F_law_start [.scr (ns.map D.int)] [] = .ok (.ref 0) h0 ∧ StD 0 h0 := by
  obtain ⟨x, x0, x1, e⟩ := start_ok ns
  exact ⟨_, e, _, rfl, ns, 0, x, 0, rfl, by decide, x0, x1, by decide⟩
end Lk26
set_option autoImplicit false
set_option Elab.async false
set_option linter.all false
set_option maxRecDepth 100000
set_option maxHeartbeats 4000000
namespace Lk26
open PySem PySem.Spec PyProof.Rows L2 Bm Fv LamK
noncomputable def turn_law (p1 p2 p3 p4 : FnKey) : M Fl :=
  (seqM (setM (dropM (lcP (.one 12) [12] (rng1 (consM (e2 addD (ret (.int (1))) (callM F_law_drawn [] (consM (eV 1) (consM (ret (.int (14))) nilM)))) nilM)) (ret true) (callM F_law_drawn [] (consM (eV 1) (consM (e2 ixD (frzM (lstM (consM (ret (.int (65536))) (consM (ret (.int (2))) nilM)))) (e2 modD (eV 11) (ret (.int (2))))) nilM))))) (putS 2))
  (seqM (setM (callM F_law_block [] (consM (eV 2) nilM)) (putS 9))
  (seqM (forM (rng1 (consM (callM F_law_drawn [] (consM (eV 1) (consM (ret (.int (5))) nilM))) nilM)) (putS 3) (setM (callM F_law_flipped [] (consM (eV 9) (consM (callM F_law_drawn [] (consM (eV 1) (consM (cN lenD (consM (eV 9) nilM)) nilM))) (consM (callM F_law_drawn [] (consM (eV 1) (consM (ret (.int (16))) nilM))) nilM)))) (putS 9)))
  (seqM (ifS (bM (e2 eqD (callM F_law_drawn [] (consM (eV 1) (consM (ret (.int (3))) nilM))) (ret (.int (0)))))
  (seqM (setM (callM F_law_drawn [] (consM (eV 1) (consM (cN lenD (consM (eV 2) nilM)) nilM))) (putS 4))
  (seqM (setM (callM F_law_flipped [] (consM (callM F_law_block [] (consM (eV 2) nilM)) (consM (eV 4) (consM (callM F_law_drawn [] (consM (eV 1) (consM (ret (.int (16))) nilM))) nilM)))) (putS 9))
  (seqM (setM (callM F_law_flipped [] (consM (eV 9) (consM (e2 addD (cN lenD (consM (eV 2) nilM)) (ret (.int (1)))) (consM (eV 4) nilM)))) (putS 9))
  (setM (callM F_law_flipped [] (consM (eV 9) (consM (e2 addD (cN lenD (consM (eV 2) nilM)) (ret (.int (1)))) (consM (e2 subD (ret (.int (15))) (callM F_law_drawn [] (consM (eV 1) (consM (e2 subD (ret (.int (16))) (eV 4)) nilM)))) nilM)))) (putS 9)))))
  (ret .nx))
  (seqM (ifS (bM (e2 eqD (callM F_law_drawn [] (consM (eV 1) (consM (ret (.int (4))) nilM))) (ret (.int (0)))))
  (setM (cN tupleD (consM (dropM (lcP (.one 12) [12] (rng1 (consM (e2 addD (ret (.int (3))) (callM F_law_drawn [] (consM (eV 1) (consM (ret (.int (3))) nilM)))) nilM)) (ret true) (callM F_law_drawn [] (consM (eV 1) (consM (ret (.int (4))) nilM))))) nilM)) (putS 9))
  (ret .nx))
  (seqM (forM (rng1 (consM (ret (.int (2))) nilM)) (putS 5) (ifS (notM (bM (callM F_law_same [] (consM (kindM (callM F_mended [] (consM (eV 9) nilM))) (consM (callM F_law_due [] (consM (eV 9) nilM)) nilM)))))
  (retM (ret (.bl false)))
  (ret .nx)))
  (seqM (setM (callM F_law_drawn [] (consM (eV 1) (consM (e2 addD (cN lenD (consM (eV 9) nilM)) (ret (.int (1)))) nilM))) (putS 8))
  (seqM (setM (e2 ixD (frzM (lstM (consM (ret (.int (65536))) (consM (e2 subD (ret (.int (0))) (ret (.int (1)))) (consM (e2 powD (ret (.int (10))) (ret (.int (20)))) nilM))))) (callM F_law_drawn [] (consM (eV 1) (consM (ret (.int (3))) nilM)))) (putS 10))
  (seqM (setM (frzM (lstM (consM (fnM 0 p1) (consM (fnM 1 p2) nilM)))) (putS 6))
  (seqM (setM (e2 addD (eV 6) (frzM (lstM (consM (fnM 2 p3) (consM (fnM 3 p4) nilM))))) (putS 6))
  (seqM (setM (frzM (lstM (consM (tupM (consM (ret (.str "BadImage")) (consM (eV 8) nilM))) (consM (tupM (consM (ret (.str "BadImage")) (consM (ret (.int (16))) nilM))) (consM (tupM (consM (ret (.str "BadImage")) (consM (e2 modD (eV 11) (ret (.int (3)))) nilM))) (consM (tupM (consM (ret (.str "BadImage")) (consM (ret (.int (16))) nilM))) nilM)))))) (putS 7))
  (ifS (andM (bM (e2 ltD (eV 8) (ret (.int (16))))) (notM (bM (callM F_law_same [] (consM (dropM (lcP (.one 13) [13] (seqI (eV 6)) (ret true) (kindFM [(p1, (callM F_mended [] (consM (slM (e2 addD (e2 addD (slM (eV 9) (prt none) (prt (some (eV 8)))) (tupM (consM (eV 10) nilM))) (slM (eV 9) (prt (some (eV 8))) (prt none))) (prt none) (prt (some (ret (.int (16)))))) nilM))), (p2, (callM F_mended [] (consM (e2 mulA (tupM (consM (ret (.int (0))) nilM)) (ret (.int (17)))) nilM))), (p3, (callM F_mended [] (consM (slM (tupM (consM (ret (.int (1))) (consM (ret (.int (2))) nilM))) (prt none) (prt (some (e2 modD (eV 11) (ret (.int (3))))))) nilM))), (p4, (callM F_mended [] (consM (e2 mulA (frzM (lstM (consM (ret (.int (0))) nilM))) (ret (.int (17)))) nilM)))] (eV 13)))) (consM (eV 7) nilM))))))
  (retM (ret (.bl false)))
  (ret .nx)))))))))))))
noncomputable def tl1 : M Fl := (setM (dropM (lcP (.one 12) [12] (rng1 (consM (e2 addD (ret (.int (1))) (callM F_law_drawn [] (consM (eV 1) (consM (ret (.int (14))) nilM)))) nilM)) (ret true) (callM F_law_drawn [] (consM (eV 1) (consM (e2 ixD (frzM (lstM (consM (ret (.int (65536))) (consM (ret (.int (2))) nilM)))) (e2 modD (eV 11) (ret (.int (2))))) nilM))))) (putS 2))
noncomputable def tl2 : M Fl := (setM (callM F_law_block [] (consM (eV 2) nilM)) (putS 9))
noncomputable def tl3 : M Fl := (forM (rng1 (consM (callM F_law_drawn [] (consM (eV 1) (consM (ret (.int (5))) nilM))) nilM)) (putS 3) (setM (callM F_law_flipped [] (consM (eV 9) (consM (callM F_law_drawn [] (consM (eV 1) (consM (cN lenD (consM (eV 9) nilM)) nilM))) (consM (callM F_law_drawn [] (consM (eV 1) (consM (ret (.int (16))) nilM))) nilM)))) (putS 9)))
noncomputable def tl4 : M Fl := (ifS (bM (e2 eqD (callM F_law_drawn [] (consM (eV 1) (consM (ret (.int (3))) nilM))) (ret (.int (0))))) (seqM (setM (callM F_law_drawn [] (consM (eV 1) (consM (cN lenD (consM (eV 2) nilM)) nilM))) (putS 4)) (seqM (setM (callM F_law_flipped [] (consM (callM F_law_block [] (consM (eV 2) nilM)) (consM (eV 4) (consM (callM F_law_drawn [] (consM (eV 1) (consM (ret (.int (16))) nilM))) nilM)))) (putS 9)) (seqM (setM (callM F_law_flipped [] (consM (eV 9) (consM (e2 addD (cN lenD (consM (eV 2) nilM)) (ret (.int (1)))) (consM (eV 4) nilM)))) (putS 9)) (setM (callM F_law_flipped [] (consM (eV 9) (consM (e2 addD (cN lenD (consM (eV 2) nilM)) (ret (.int (1)))) (consM (e2 subD (ret (.int (15))) (callM F_law_drawn [] (consM (eV 1) (consM (e2 subD (ret (.int (16))) (eV 4)) nilM)))) nilM)))) (putS 9))))) (ret .nx))
noncomputable def tl5 : M Fl := (ifS (bM (e2 eqD (callM F_law_drawn [] (consM (eV 1) (consM (ret (.int (4))) nilM))) (ret (.int (0))))) (setM (cN tupleD (consM (dropM (lcP (.one 12) [12] (rng1 (consM (e2 addD (ret (.int (3))) (callM F_law_drawn [] (consM (eV 1) (consM (ret (.int (3))) nilM)))) nilM)) (ret true) (callM F_law_drawn [] (consM (eV 1) (consM (ret (.int (4))) nilM))))) nilM)) (putS 9)) (ret .nx))
noncomputable def tl6 : M Fl := (forM (rng1 (consM (ret (.int (2))) nilM)) (putS 5) (ifS (notM (bM (callM F_law_same [] (consM (kindM (callM F_mended [] (consM (eV 9) nilM))) (consM (callM F_law_due [] (consM (eV 9) nilM)) nilM))))) (retM (ret (.bl false))) (ret .nx)))
noncomputable def tl7 : M Fl := (setM (callM F_law_drawn [] (consM (eV 1) (consM (e2 addD (cN lenD (consM (eV 9) nilM)) (ret (.int (1)))) nilM))) (putS 8))
noncomputable def tl8 : M Fl := (setM (e2 ixD (frzM (lstM (consM (ret (.int (65536))) (consM (e2 subD (ret (.int (0))) (ret (.int (1)))) (consM (e2 powD (ret (.int (10))) (ret (.int (20)))) nilM))))) (callM F_law_drawn [] (consM (eV 1) (consM (ret (.int (3))) nilM)))) (putS 10))
noncomputable def tl9 (p1 p2 : FnKey) : M Fl := (setM (frzM (lstM (consM (fnM 0 p1) (consM (fnM 1 p2) nilM)))) (putS 6))
noncomputable def tl10 (p3 p4 : FnKey) : M Fl := (setM (e2 addD (eV 6) (frzM (lstM (consM (fnM 2 p3) (consM (fnM 3 p4) nilM))))) (putS 6))
noncomputable def tl11 : M Fl := (setM (frzM (lstM (consM (tupM (consM (ret (.str "BadImage")) (consM (eV 8) nilM))) (consM (tupM (consM (ret (.str "BadImage")) (consM (ret (.int (16))) nilM))) (consM (tupM (consM (ret (.str "BadImage")) (consM (e2 modD (eV 11) (ret (.int (3)))) nilM))) (consM (tupM (consM (ret (.str "BadImage")) (consM (ret (.int (16))) nilM))) nilM)))))) (putS 7))
noncomputable def tl12 (p1 p2 p3 p4 : FnKey) : M Fl := (ifS (andM (bM (e2 ltD (eV 8) (ret (.int (16))))) (notM (bM (callM F_law_same [] (consM (dropM (lcP (.one 13) [13] (seqI (eV 6)) (ret true) (kindFM [(p1, (callM F_mended [] (consM (slM (e2 addD (e2 addD (slM (eV 9) (prt none) (prt (some (eV 8)))) (tupM (consM (eV 10) nilM))) (slM (eV 9) (prt (some (eV 8))) (prt none))) (prt none) (prt (some (ret (.int (16)))))) nilM))), (p2, (callM F_mended [] (consM (e2 mulA (tupM (consM (ret (.int (0))) nilM)) (ret (.int (17)))) nilM))), (p3, (callM F_mended [] (consM (slM (tupM (consM (ret (.int (1))) (consM (ret (.int (2))) nilM))) (prt none) (prt (some (e2 modD (eV 11) (ret (.int (3))))))) nilM))), (p4, (callM F_mended [] (consM (e2 mulA (frzM (lstM (consM (ret (.int (0))) nilM))) (ret (.int (17)))) nilM)))] (eV 13)))) (consM (eV 7) nilM)))))) (retM (ret (.bl false))) (ret .nx))
theorem tl_u (p1 p2 p3 p4 : FnKey) : turn_law p1 p2 p3 p4 = seqM tl1 (seqM tl2 (seqM tl3 (seqM tl4 (seqM tl5 (seqM tl6 (seqM tl7 (seqM tl8 (seqM (tl9 p1 p2) (seqM (tl10 p3 p4) (seqM tl11 (tl12 p1 p2 p3 p4))))))))))) := rfl
def Vb (b : List Nat) (n : Nat) : Prop := b.length = n ∧ ∀ w ∈ b, w < 65536
def PW (d : D) : Prop := ∃ n : Nat, n < 65536 ∧ d = .int ((n : Nat) : Int)
theorem PW.low {d : D} (p : PW d) : low 0 d = true := by
  obtain ⟨n, _, rfl⟩ := p
  rfl
theorem pw_ws : ∀ {us : List D}, (∀ u ∈ us, PW u) → ∃ ws : List Nat, us = (wsI ws).map .int ∧ ws.length = us.length ∧ ∀ w ∈ ws, w < 65536
  | [], _ => ⟨[], rfl, rfl, by simp⟩
  | u :: us, a => by
    obtain ⟨ws, rfl, l, hw⟩ := pw_ws fun v hv => a v (.tail _ hv)
    obtain ⟨n, hn, rfl⟩ := a u (.head _)
    exact ⟨n :: ws, rfl, by simp [l], fun w m => (List.mem_cons.mp m).elim (fun e => e ▸ hn) (hw w)⟩
theorem drawV {st : Nat} {h : List Ob} (S : StD st h) {m : Int} (hm : 0 < m) (hl : m ≤ 1000000) {ρ : List (Option D)} (q : ρ[1]? = some (some (.ref st))) {f : M D} (qf : f ⟨ρ, h⟩ = .ok (.int m) ⟨ρ, h⟩) :
    ∃ (n : Nat) (h' : List Ob), callM F_law_drawn [] (consM (eV 1) (consM f nilM)) ⟨ρ, h⟩ = .ok (.int ((n : Nat) : Int)) ⟨ρ, h'⟩ ∧ ((n : Nat) : Int) < m ∧ StD st h' ∧ Keep st h h' := by
  obtain ⟨r, h', e, r0, r1, S1, K1⟩ := draw S m hm hl
  refine ⟨r.toNat, h', ?_, by omega, S1, K1⟩
  rw [show ((r.toNat : Nat) : Int) = r by omega]
  exact st_call (st_arg (st_v q) (st_arg qf st_arg0)) e
theorem tl1_ok {st : Nat} {h : List Ob} (S : StD st h) {t : Nat} (ht : t < 8) (a0 a2 a3 a4 a5 a6 a7 a8 a9 a10 a12 a13 : Option D) :
    ∃ (ws : List Nat) (h' : List Ob), tl1 ⟨[a0, some (.ref st), a2, a3, a4, a5, a6, a7, a8, a9, a10, some (.int ((t : Nat) : Int)), a12, a13], h⟩ = .ok .nx ⟨[a0, some (.ref st), some (.lst ((wsI ws).map .int)), a3, a4, a5, a6, a7, a8, a9, a10, some (.int ((t : Nat) : Int)), a12, a13], h'⟩ ∧ 1 ≤ ws.length ∧ ws.length ≤ 14 ∧ (∀ w ∈ ws, w < 65536) ∧ StD st h' := by
  obtain ⟨n, h1, e1, n1, S1, K1⟩ := drawV S (m := 14) (by decide) (by decide) (ρ := [a0, some (.ref st), a2, a3, a4, a5, a6, a7, a8, a9, a10, some (.int ((t : Nat) : Int)), a12, a13]) rfl (st_c (d := .int 14))
  obtain ⟨m, em, m0, m1⟩ : ∃ m : Int, (∀ H, ixD H (.lst [.int 65536, .int 2]) (.int (((t : Nat) : Int) % 2)) = some (.int m)) ∧ 0 < m ∧ m ≤ 65536 := by
    rcases (by omega : ((t : Nat) : Int) % 2 = 0 ∨ ((t : Nat) : Int) % 2 = 1) with q | q <;> rw [q]
    · exact ⟨65536, fun H => rfl, by decide, by decide⟩
    · exact ⟨2, fun H => rfl, by decide, by decide⟩
  have qi : rng1 (consM (e2 addD (ret (.int (1))) (callM F_law_drawn [] (consM (eV 1) (consM (ret (.int (14))) nilM)))) nilM) ⟨[a0, some (.ref st), a2, a3, a4, a5, a6, a7, a8, a9, a10, some (.int ((t : Nat) : Int)), a12, a13], h⟩ = .ok (rangeL 0 (1 + ((n : Nat) : Int)).toNat) ⟨[a0, some (.ref st), a2, a3, a4, a5, a6, a7, a8, a9, a10, some (.int ((t : Nat) : Int)), a12, a13], h1⟩ :=
    st_rngI (j := 1 + ((n : Nat) : Int)) (st_arg (st_e2 st_c e1 rfl) st_arg0) (by omega) (by omega)
  obtain ⟨us, h', e, l, hu, S', _⟩ := drop_gen (P := PW) (fun d p => p.low) (t := .one 12) (vs := [12]) (F := callM F_law_drawn [] (consM (eV 1) (consM (e2 ixD (frzM (lstM (consM (ret (.int (65536))) (consM (ret (.int (2))) nilM)))) (e2 modD (eV 11) (ret (.int (2))))) nilM))) S1 K1 qi (by rw [length_rangeL]; omega) (fun d hd => by
    refine ⟨[a0, some (.ref st), a2, a3, a4, a5, a6, a7, a8, a9, a10, some (.int ((t : Nat) : Int)), some d, a13], rfl, fun H SH _ => ?_⟩
    obtain ⟨n, H', e, n1, S2, K2⟩ := drawV SH m0 (by omega) (ρ := [a0, some (.ref st), a2, a3, a4, a5, a6, a7, a8, a9, a10, some (.int ((t : Nat) : Int)), some d, a13]) rfl (f := e2 ixD (frzM (lstM (consM (ret (.int (65536))) (consM (ret (.int (2))) nilM)))) (e2 modD (eV 11) (ret (.int (2))))) (st_e2 (st_lst (st_arg st_c (st_arg st_c st_arg0))) (st_e2 (st_v rfl) st_c rfl) (em H))
    exact ⟨_, H', e, ⟨n, by omega, rfl⟩, S2, K2⟩)
  obtain ⟨ws, rfl, lw, hw⟩ := pw_ws hu
  rw [length_rangeL] at l
  exact ⟨ws, h', st_set e, by omega, by omega, hw, S'⟩
theorem flip_draw {st : Nat} {h : List Ob} (S : StD st h) {b : List Nat} {n : Nat} (vb : Vb b n) (n1 : 1 ≤ n) (n16 : n ≤ 16) (a0 a2 a3 a4 a5 a6 a7 a8 a10 a11 a12 a13 : Option D) :
    ∃ (b' : List Nat) (h' : List Ob), setM (callM F_law_flipped [] (consM (eV 9) (consM (callM F_law_drawn [] (consM (eV 1) (consM (cN lenD (consM (eV 9) nilM)) nilM))) (consM (callM F_law_drawn [] (consM (eV 1) (consM (ret (.int (16))) nilM))) nilM)))) (putS 9) ⟨[a0, some (.ref st), a2, a3, a4, a5, a6, a7, a8, some (tI b), a10, a11, a12, a13], h⟩ = .ok .nx ⟨[a0, some (.ref st), a2, a3, a4, a5, a6, a7, a8, some (tI b'), a10, a11, a12, a13], h'⟩ ∧ Vb b' n ∧ StD st h' := by
  have ll : cN lenD (consM (eV 9) nilM) ⟨[a0, some (.ref st), a2, a3, a4, a5, a6, a7, a8, some (tI b), a10, a11, a12, a13], h⟩ = .ok (.int ((n : Nat) : Int)) ⟨[a0, some (.ref st), a2, a3, a4, a5, a6, a7, a8, some (tI b), a10, a11, a12, a13], h⟩ := by
    refine st_lenO (st_v rfl) ?_
    have := (Sq.lenD (.inl rfl : Sq (tI b) (wsI b)) h)
    rw [wsI_len, vb.1] at this
    exact this
  obtain ⟨i, h1, e1, i1, S1, K1⟩ := drawV S (m := ((n : Nat) : Int)) (by omega) (by omega) (ρ := [a0, some (.ref st), a2, a3, a4, a5, a6, a7, a8, some (tI b), a10, a11, a12, a13]) rfl ll
  obtain ⟨k, h2, e2', k1, S2, K2⟩ := drawV S1 (m := 16) (by decide) (by decide) (ρ := [a0, some (.ref st), a2, a3, a4, a5, a6, a7, a8, some (tI b), a10, a11, a12, a13]) rfl (st_c (d := .int 16))
  have hi : i < b.length := by rw [vb.1]; omega
  have f := flipped_ok hi (show k < 16 by omega) (by rw [vb.1]; omega) h2
  exact ⟨flipB b i k, h2, st_set (st_call (st_arg (st_v rfl) (st_arg e1 (st_arg e2' st_arg0))) f), ⟨by rw [flipB_len, vb.1], flipB_lt vb.2 (by omega) hi⟩, S2⟩
theorem tl3_ok {st : Nat} (n : Nat) (n1 : 1 ≤ n) (n16 : n ≤ 16) (a0 a2 a4 a5 a6 a7 a8 a10 a11 a12 a13 : Option D) : ∀ (ds : List D) (h : List Ob) (b : List Nat) (a3 : Option D), StD st h → Vb b n →
    ∃ (b' : List Nat) (h' : List Ob) (b3 : Option D), forL (putS 3) (setM (callM F_law_flipped [] (consM (eV 9) (consM (callM F_law_drawn [] (consM (eV 1) (consM (cN lenD (consM (eV 9) nilM)) nilM))) (consM (callM F_law_drawn [] (consM (eV 1) (consM (ret (.int (16))) nilM))) nilM)))) (putS 9)) ds ⟨[a0, some (.ref st), a2, a3, a4, a5, a6, a7, a8, some (tI b), a10, a11, a12, a13], h⟩ = .ok .nx ⟨[a0, some (.ref st), a2, b3, a4, a5, a6, a7, a8, some (tI b'), a10, a11, a12, a13], h'⟩ ∧ Vb b' n ∧ StD st h'
  | [], h, b, a3, S, vb => ⟨b, h, a3, rfl, vb, S⟩
  | d :: ds, h, b, a3, S, vb => by
    obtain ⟨b1, h1, e1, v1, S1⟩ := flip_draw S vb n1 n16 a0 a2 (some d) a4 a5 a6 a7 a8 a10 a11 a12 a13
    obtain ⟨b2, h2, b3, e2', v2, S2⟩ := tl3_ok n n1 n16 a0 a2 a4 a5 a6 a7 a8 a10 a11 a12 a13 ds h1 b1 (some d) S1 v1
    exact ⟨b2, h2, b3, (for_step rfl e1).trans e2', v2, S2⟩
theorem eq_i {h : List Ob} (i j : Int) : eqD h (.int i) (.int j) = some (.bl (decide (i = j))) := rfl
theorem sealB_lt {ws : List Nat} (hl : ws.length ≤ 14) (hw : ∀ w ∈ ws, w < 65536) : Vb (sealB ws) (ws.length + 2) := by
  refine ⟨sealB_len ws, fun w m => ?_⟩
  rcases List.mem_append.mp m with m | m
  · exact hw w m
  · rcases List.mem_cons.mp m with rfl | m
    · exact cols_lt16 hw
    · rw [List.mem_singleton.mp m, ← rowsW_marks hl]
      have := rowsW_lt (ws := ws) (c := cols ws) hl
      omega
end Lk26
set_option autoImplicit false
set_option Elab.async false
set_option linter.all false
set_option maxRecDepth 100000
set_option maxHeartbeats 4000000
namespace Lk26
open PySem PySem.Spec PyProof.Rows L2 Bm Fv LamK
theorem lenB {st : Nat} {h : List Ob} {b : List Nat} {n : Nat} (hb : b.length = n) (ρ : List (Option D)) (q : ρ[9]? = some (some (tI b))) : cN lenD (consM (eV 9) nilM) ⟨ρ, h⟩ = .ok (.int ((n : Nat) : Int)) ⟨ρ, h⟩ := by
  refine st_lenO (st_v q) ?_
  have := (Sq.lenD (.inl rfl : Sq (tI b) (wsI b)) h)
  rw [wsI_len, hb] at this
  exact this
theorem lenW {h : List Ob} {ws : List Nat} (ρ : List (Option D)) (q : ρ[2]? = some (some (.lst ((wsI ws).map .int)))) : cN lenD (consM (eV 2) nilM) ⟨ρ, h⟩ = .ok (.int ((ws.length : Nat) : Int)) ⟨ρ, h⟩ := by
  have := st_len (f := eV 2) (e := ⟨ρ, h⟩) (e' := ⟨ρ, h⟩) (st_v q)
  rw [this]
  simp [wsI]
theorem tl4_ok {st : Nat} {h : List Ob} (S : StD st h) {ws : List Nat} (w1 : 1 ≤ ws.length) (w14 : ws.length ≤ 14) (hw : ∀ w ∈ ws, w < 65536) {b : List Nat} (vb : Vb b (ws.length + 2)) (a0 a3 a4 a5 a6 a7 a8 a10 a11 a12 a13 : Option D) :
    ∃ (b' : List Nat) (h' : List Ob) (b4 : Option D), tl4 ⟨[a0, some (.ref st), some (.lst ((wsI ws).map .int)), a3, a4, a5, a6, a7, a8, some (tI b), a10, a11, a12, a13], h⟩ = .ok .nx ⟨[a0, some (.ref st), some (.lst ((wsI ws).map .int)), a3, b4, a5, a6, a7, a8, some (tI b'), a10, a11, a12, a13], h'⟩ ∧ Vb b' (ws.length + 2) ∧ StD st h' := by
  obtain ⟨c, h1, e1, c1, S1, K1⟩ := drawV S (m := 3) (by decide) (by decide) (ρ := [a0, some (.ref st), some (.lst ((wsI ws).map .int)), a3, a4, a5, a6, a7, a8, some (tI b), a10, a11, a12, a13]) rfl (st_c (d := .int 3))
  have t := st_be2 e1 (st_c (d := .int 0)) (eq_i _ _)
  by_cases z : ((c : Nat) : Int) = 0
  · rw [decide_eq_true z] at t
    obtain ⟨i, h2, e2', i1, S2, K2⟩ := drawV S1 (m := ((ws.length : Nat) : Int)) (by omega) (by omega) (ρ := [a0, some (.ref st), some (.lst ((wsI ws).map .int)), a3, a4, a5, a6, a7, a8, some (tI b), a10, a11, a12, a13]) rfl (lenW _ rfl)
    have s1 := st_set (i := 4) e2'
    have lb := law_block_ok (x := .lst ((wsI ws).map .int)) (.inr rfl) hw w14 h2
    have vs := sealB_lt w14 hw
    obtain ⟨k, h3, e3, k1, S3, K3⟩ := drawV S2 (m := 16) (by decide) (by decide) (ρ := [a0, some (.ref st), some (.lst ((wsI ws).map .int)), a3, some (.int ((i : Nat) : Int)), a5, a6, a7, a8, some (tI b), a10, a11, a12, a13]) rfl (st_c (d := .int 16))
    have hi : i < (sealB ws).length := by rw [vs.1]; omega
    have f1 := flipped_ok hi (show k < 16 by omega) (by rw [vs.1]; omega) h3
    have v1 : Vb (flipB (sealB ws) i k) (ws.length + 2) := ⟨by rw [flipB_len, vs.1], flipB_lt vs.2 (by omega) hi⟩
    have s2 : setM (callM F_law_flipped [] (consM (callM F_law_block [] (consM (eV 2) nilM)) (consM (eV 4) (consM (callM F_law_drawn [] (consM (eV 1) (consM (ret (.int (16))) nilM))) nilM)))) (putS 9) ⟨[a0, some (.ref st), some (.lst ((wsI ws).map .int)), a3, some (.int ((i : Nat) : Int)), a5, a6, a7, a8, some (tI b), a10, a11, a12, a13], h2⟩ = .ok .nx ⟨[a0, some (.ref st), some (.lst ((wsI ws).map .int)), a3, some (.int ((i : Nat) : Int)), a5, a6, a7, a8, some (tI (flipB (sealB ws) i k)), a10, a11, a12, a13], h3⟩ :=
      st_set (st_call (st_arg (st_call1 rfl lb) (st_arg (st_v rfl) (st_arg e3 st_arg0))) f1)
    have i16 : i < 16 := by omega
    have hn : ws.length + 1 < (flipB (sealB ws) i k).length := by rw [v1.1]; omega
    have f2 := flipped_ok hn i16 (by rw [v1.1]; omega) h3
    have v2 : Vb (flipB (flipB (sealB ws) i k) (ws.length + 1) i) (ws.length + 2) := ⟨by rw [flipB_len, v1.1], flipB_lt v1.2 i16 hn⟩
    obtain ⟨B1, eB1⟩ : ∃ B1, B1 = flipB (sealB ws) i k := ⟨_, rfl⟩
    rw [← eB1] at s2 f2 v2 hn
    have s3 : setM (callM F_law_flipped [] (consM (eV 9) (consM (e2 addD (cN lenD (consM (eV 2) nilM)) (ret (.int (1)))) (consM (eV 4) nilM)))) (putS 9) ⟨[a0, some (.ref st), some (.lst ((wsI ws).map .int)), a3, some (.int ((i : Nat) : Int)), a5, a6, a7, a8, some (tI B1), a10, a11, a12, a13], h3⟩ = .ok .nx ⟨[a0, some (.ref st), some (.lst ((wsI ws).map .int)), a3, some (.int ((i : Nat) : Int)), a5, a6, a7, a8, some (tI (flipB B1 (ws.length + 1) i)), a10, a11, a12, a13], h3⟩ :=
      st_set (st_call (st_arg (st_v rfl) (st_arg (st_e2 (lenW _ rfl) st_c (z := .int ((ws.length + 1 : Nat) : Int)) rfl) (st_arg (st_v rfl) st_arg0))) f2)
    obtain ⟨B2, eB2⟩ : ∃ B2, B2 = flipB B1 (ws.length + 1) i := ⟨_, rfl⟩
    rw [← eB2] at s3 v2
    obtain ⟨j, h4, e4, j1, S4, K4⟩ := drawV S3 (m := 16 - ((i : Nat) : Int)) (by omega) (by omega) (ρ := [a0, some (.ref st), some (.lst ((wsI ws).map .int)), a3, some (.int ((i : Nat) : Int)), a5, a6, a7, a8, some (tI B2), a10, a11, a12, a13]) rfl (f := e2 subD (ret (.int (16))) (eV 4)) (st_e2 st_c (st_v rfl) rfl)
    have hn2 : ws.length + 1 < B2.length := by rw [v2.1]; omega
    have f3 := flipped_ok hn2 (show 15 - j < 16 by omega) (by rw [v2.1]; omega) h4
    have ej : subD h4 (.int 15) (.int ((j : Nat) : Int)) = some (.int ((15 - j : Nat) : Int)) := by
      have q : (15 : Int) - ((j : Nat) : Int) = ((15 - j : Nat) : Int) := by omega
      rw [← q]
      rfl
    have s4 : setM (callM F_law_flipped [] (consM (eV 9) (consM (e2 addD (cN lenD (consM (eV 2) nilM)) (ret (.int (1)))) (consM (e2 subD (ret (.int (15))) (callM F_law_drawn [] (consM (eV 1) (consM (e2 subD (ret (.int (16))) (eV 4)) nilM)))) nilM)))) (putS 9) ⟨[a0, some (.ref st), some (.lst ((wsI ws).map .int)), a3, some (.int ((i : Nat) : Int)), a5, a6, a7, a8, some (tI B2), a10, a11, a12, a13], h3⟩ = .ok .nx ⟨[a0, some (.ref st), some (.lst ((wsI ws).map .int)), a3, some (.int ((i : Nat) : Int)), a5, a6, a7, a8, some (tI (flipB B2 (ws.length + 1) (15 - j))), a10, a11, a12, a13], h4⟩ :=
      st_set (st_call (st_arg (st_v rfl) (st_arg (st_e2 (lenW _ rfl) st_c (z := .int ((ws.length + 1 : Nat) : Int)) rfl) (st_arg (st_e2 st_c e4 ej) st_arg0))) f3)
    exact ⟨_, h4, _, (st_if_t t).trans ((st_seq s1).trans ((st_seq s2).trans ((st_seq s3).trans s4))), ⟨by rw [flipB_len, v2.1], flipB_lt v2.2 (by omega) hn2⟩, S4⟩
  · rw [decide_eq_false z] at t
    exact ⟨b, h1, a4, st_if_nx t, vb, S1⟩
theorem tl5_ok {st : Nat} {h : List Ob} (S : StD st h) {b : List Nat} {n : Nat} (vb : Vb b n) (n3 : 3 ≤ n) (n16 : n ≤ 16) (a0 a2 a3 a4 a5 a6 a7 a8 a10 a11 a12 a13 : Option D) :
    ∃ (b' : List Nat) (n' : Nat) (h' : List Ob), tl5 ⟨[a0, some (.ref st), a2, a3, a4, a5, a6, a7, a8, some (tI b), a10, a11, a12, a13], h⟩ = .ok .nx ⟨[a0, some (.ref st), a2, a3, a4, a5, a6, a7, a8, some (tI b'), a10, a11, a12, a13], h'⟩ ∧ Vb b' n' ∧ 3 ≤ n' ∧ n' ≤ 16 ∧ StD st h' := by
  obtain ⟨c, h1, e1, c1, S1, K1⟩ := drawV S (m := 4) (by decide) (by decide) (ρ := [a0, some (.ref st), a2, a3, a4, a5, a6, a7, a8, some (tI b), a10, a11, a12, a13]) rfl (st_c (d := .int 4))
  have t := st_be2 e1 (st_c (d := .int 0)) (eq_i _ _)
  by_cases z : ((c : Nat) : Int) = 0
  · rw [decide_eq_true z] at t
    obtain ⟨k, h2, e2', k1, S2, K2⟩ := drawV S1 (m := 3) (by decide) (by decide) (ρ := [a0, some (.ref st), a2, a3, a4, a5, a6, a7, a8, some (tI b), a10, a11, a12, a13]) rfl (st_c (d := .int 3))
    have qi : rng1 (consM (e2 addD (ret (.int (3))) (callM F_law_drawn [] (consM (eV 1) (consM (ret (.int (3))) nilM)))) nilM) ⟨[a0, some (.ref st), a2, a3, a4, a5, a6, a7, a8, some (tI b), a10, a11, a12, a13], h1⟩ = .ok (rangeL 0 (3 + ((k : Nat) : Int)).toNat) ⟨[a0, some (.ref st), a2, a3, a4, a5, a6, a7, a8, some (tI b), a10, a11, a12, a13], h2⟩ :=
      st_rngI (j := 3 + ((k : Nat) : Int)) (st_arg (st_e2 st_c e2' rfl) st_arg0) (by omega) (by omega)
    obtain ⟨us, h', e, l, hu, S', _⟩ := drop_gen (P := PW) (fun d p => p.low) (t := .one 12) (vs := [12]) (F := callM F_law_drawn [] (consM (eV 1) (consM (ret (.int (4))) nilM))) S2 K2 qi (by rw [length_rangeL]; omega) (fun d hd => by
      refine ⟨[a0, some (.ref st), a2, a3, a4, a5, a6, a7, a8, some (tI b), a10, a11, some d, a13], rfl, fun H SH _ => ?_⟩
      obtain ⟨n, H', e, n1, S2, K2⟩ := drawV SH (m := 4) (by decide) (by decide) (ρ := [a0, some (.ref st), a2, a3, a4, a5, a6, a7, a8, some (tI b), a10, a11, some d, a13]) rfl (st_c (d := .int 4))
      exact ⟨_, H', e, ⟨n, by omega, rfl⟩, S2, K2⟩)
    obtain ⟨ws, rfl, lw, hw⟩ := pw_ws hu
    rw [length_rangeL] at l
    refine ⟨ws, ws.length, h', (st_if_t t).trans (st_set (st_cN (st_arg e st_arg0) ?_)), ⟨rfl, hw⟩, by omega, by omega, S'⟩
    simp
  · rw [decide_eq_false z] at t
    exact ⟨b, n, h1, st_if_nx t, vb, n3, n16, S1⟩
theorem dep_intsN (n : Nat) : ∀ (ws : List Int), (ws.map PyData.int).all (depD n) = true
  | [] => rfl
  | w :: ws => by
    have := dep_intsN n ws
    simp only [List.map_cons, List.all_cons, this, Bool.and_true]
    cases n <;> rfl
theorem toP_res {go : Nat → Option PyData} (r : List Nat × Option (Nat × Nat)) : toPW go (resD r) = some (match r with
    | (ws, none) => .tuple [.tuple ((wsI ws).map .int), .none]
    | (ws, some (i, k)) => .tuple [.tuple ((wsI ws).map .int), .tuple [.int ((i : Nat) : Int), .int ((k : Nat) : Int)]]) := by
  obtain ⟨ws, t⟩ := r
  rcases t with _ | ⟨i, k⟩ <;> simp [resD, toPW, Fv.toPs, toPs_ints]
theorem same_res {r : List Nat × Option (Nat × Nat)} (hl : r.1.length ≤ 1000) (h : List Ob) : F_law_same [resD r, resD r] h = .ok (.bl true) h := by
  have e := toP_res (go := goN h 5) r
  obtain ⟨ws, t⟩ := r
  have d1 := dep_intsN 1 (wsI ws)
  have d2 : (wsI ws).length ≤ 100000 := by rw [wsI_len]; exact Nat.le_trans hl (by decide)
  rcases t with _ | ⟨i, k⟩
  · refine same_refl (p := .tuple [.tuple ((wsI ws).map .int), .none]) ?_ ?_ ?_
    · simp [Fv.dataOf, resD, toPW, Fv.toPs, toPs_ints]
    · simp [Fv.dataOf, resD, toPW, Fv.toPs, toPs_ints]
    · simp [depD, d2, Bm.flatD]
  · refine same_refl (p := .tuple [.tuple ((wsI ws).map .int), .tuple [.int ((i : Nat) : Int), .int ((k : Nat) : Int)]]) ?_ ?_ ?_
    · simp [Fv.dataOf, resD, toPW, Fv.toPs, toPs_ints]
    · simp [Fv.dataOf, resD, toPW, Fv.toPs, toPs_ints]
    · simp [depD, d2, Bm.flatD]
end Lk26
set_option autoImplicit false
set_option Elab.async false
set_option linter.all false
set_option maxRecDepth 100000
set_option maxHeartbeats 4000000
namespace Lk26
open PySem PySem.Spec PyProof.Rows L2 Bm Fv LamK
theorem kind_ok {b : List Nat} {n : Nat} (vb : Vb b n) (n3 : 3 ≤ n) (n16 : n ≤ 16) {ρ : List (Option D)} {h : List Ob} (q : ρ[9]? = some (some (tI b))) : kindM (callM F_mended [] (consM (eV 9) nilM)) ⟨ρ, h⟩ = .ok (dueD b) ⟨ρ, h⟩ := by
  have hl := vb.1
  have m := mended_good (x := tI b) (b := b) (.inl rfl) (by omega) (by omega) vb.2 h
  have d := due_mend (b := b) (by omega) (by omega) vb.2
  unfold dueD
  rw [d]
  cases e : mendR b with
  | some r =>
    rw [e] at m
    exact st_kind (st_call1 q m)
  | none =>
    rw [e] at m
    exact st_kindX (st_call1X q m) rfl
theorem due_len {b : List Nat} {r : List Nat × Option (Nat × Nat)} (e : dueL b = some r) : r.1.length ≤ b.length := by
  unfold dueL at e
  split at e
  · cases e
    show (b.take _).length ≤ _
    rw [List.length_take]
    omega
  · obtain ⟨i, _, e1⟩ := List.exists_of_findSome?_eq_some e
    obtain ⟨k, _, e2'⟩ := List.exists_of_findSome?_eq_some e1
    unfold tryB at e2'
    split at e2'
    · cases e2'
      show ((flipB b i k).take _).length ≤ _
      rw [List.length_take, flipB_len]
      omega
    · cases e2'
theorem same_due {b : List Nat} {n : Nat} (vb : Vb b n) (n16 : n ≤ 16) (h : List Ob) : F_law_same [dueD b, dueD b] h = .ok (.bl true) h := by
  have hl := vb.1
  unfold dueD
  cases e : dueL b with
  | some r => exact same_res (Nat.le_trans (due_len e) (by omega)) h
  | none => exact same_refl (p := .str "NoMend") (by simp [Fv.dataOf, toPW]) (by simp [Fv.dataOf, toPW]) rfl
theorem tl6_ok {b : List Nat} {n : Nat} (vb : Vb b n) (n3 : 3 ≤ n) (n16 : n ≤ 16) (a0 a1 a2 a3 a4 a5 a6 a7 a8 a10 a11 a12 a13 : Option D) (h : List Ob) : tl6 ⟨[a0, a1, a2, a3, a4, a5, a6, a7, a8, some (tI b), a10, a11, a12, a13], h⟩ = .ok .nx ⟨[a0, a1, a2, a3, a4, some (.int 1), a6, a7, a8, some (tI b), a10, a11, a12, a13], h⟩ := by
  have hl := vb.1
  have r2 : rng1 (consM (ret (.int (2))) nilM) ⟨[a0, a1, a2, a3, a4, a5, a6, a7, a8, some (tI b), a10, a11, a12, a13], h⟩ = .ok [.int 0, .int 1] ⟨[a0, a1, a2, a3, a4, a5, a6, a7, a8, some (tI b), a10, a11, a12, a13], h⟩ := st_rngI (j := 2) (st_arg rfl st_arg0) (by decide) (by decide)
  have one : ∀ b5 : Option D, (ifS (notM (bM (callM F_law_same [] (consM (kindM (callM F_mended [] (consM (eV 9) nilM))) (consM (callM F_law_due [] (consM (eV 9) nilM)) nilM))))) (retM (ret (.bl false))) (ret .nx)) ⟨[a0, a1, a2, a3, a4, b5, a6, a7, a8, some (tI b), a10, a11, a12, a13], h⟩ = .ok .nx ⟨[a0, a1, a2, a3, a4, b5, a6, a7, a8, some (tI b), a10, a11, a12, a13], h⟩ := fun b5 =>
    st_if_nx (st_not (st_bM (st_call (st_arg (kind_ok vb n3 n16 rfl) (st_arg (st_call1 rfl (law_due_ok (by omega) (by omega) vb.2 h)) st_arg0)) (same_due vb n16 h))))
  exact st_for r2 ((for_step rfl (one _)).trans ((for_step rfl (one _)).trans rfl))
def bad (k : Nat) : D := .tup [.str "BadImage", .int ((k : Nat) : Int)]
theorem kind_bad {f : M D} {ρ : List (Option D)} {h : List Ob} {x : D} {xs : List Int} {k : Nat} (q : f ⟨ρ, h⟩ = .ok x ⟨ρ, h⟩) (s : Sq x xs) (nb : nbR h xs = .ex "BadImage" [("number", .int ((k : Nat) : Int))] h) : kindM (callM F_mended [] (consM f nilM)) ⟨ρ, h⟩ = .ok (bad k) ⟨ρ, h⟩ :=
  st_kindX (st_callX (st_arg q st_arg0) (mended_bad s h nb)) rfl
theorem fb_at {o : Int} (ho : ¬ (0 ≤ o ∧ o ≤ 65535)) (rest : List Int) : ∀ {ws : List Nat} {i : Nat}, (∀ w ∈ ws, w < 65536) → i + ws.length < 16 → fb16 (wsI ws ++ o :: rest) i = some (i + ws.length)
  | [], i, _, _ => by
    show (if i = 16 ∨ ¬ (0 ≤ o ∧ o ≤ 65535) then some i else fb16 rest (i + 1)) = _
    rw [if_pos (.inr ho)]
    rfl
  | w :: ws, i, a, l => by
    have h1 := a w (.head _)
    simp only [List.length_cons] at l
    have c : ¬ (i = 16 ∨ ¬ (0 ≤ ((w : Nat) : Int) ∧ ((w : Nat) : Int) ≤ 65535)) := by omega
    show (if i = 16 ∨ ¬ (0 ≤ ((w : Nat) : Int) ∧ ((w : Nat) : Int) ≤ 65535) then some i else fb16 (wsI ws ++ o :: rest) (i + 1)) = _
    rw [if_neg c, fb_at ho rest (fun y hy => a y (.tail _ hy)) (by omega)]
    simp only [List.length_cons]
    congr 1
    omega
theorem cut16 {α : Type} (xs : List α) : cut xs none (some 16) = xs.take 16 := Fv.cut_to (by decide)
theorem work1 {b : List Nat} {n at_ : Nat} (vb : Vb b n) (n16 : n ≤ 16) (ha : at_ < 16) (han : at_ ≤ n) {o : Int} (ho : ¬ (0 ≤ o ∧ o ≤ 65535)) {ρ : List (Option D)} {h : List Ob} (q8 : ρ[8]? = some (some (.int ((at_ : Nat) : Int)))) (q9 : ρ[9]? = some (some (tI b))) (q10 : ρ[10]? = some (some (.int o))) :
    kindM (callM F_mended [] (consM (slM (e2 addD (e2 addD (slM (eV 9) (prt none) (prt (some (eV 8)))) (tupM (consM (eV 10) nilM))) (slM (eV 9) (prt (some (eV 8))) (prt none))) (prt none) (prt (some (ret (.int (16)))))) nilM)) ⟨ρ, h⟩ = .ok (bad at_) ⟨ρ, h⟩ := by
  have hl := vb.1
  have p0 : ∀ e : En, prt none e = .ok none e := fun e => rfl
  have lb : ((wsI b).map D.int).length = n := by simp [wsI, hl]
  have c1 : slD h (tI b) none (some ((at_ : Nat) : Int)) = some (.tup (((wsI b).map D.int).take at_)) := by rw [x_sl1, Fv.cut_to (by omega)]; simp
  have c2 : slD h (tI b) (some ((at_ : Nat) : Int)) none = some (.tup (((wsI b).map D.int).drop at_)) := by rw [x_sl1, Fv.cut_from (by omega)]; simp
  have n1 : (((wsI b).map D.int).take at_).length + [D.int o].length ≤ sizeLine := size_le (by rw [List.length_take, lb, List.length_singleton]; omega)
  have n2 : (((wsI b).map D.int).take at_ ++ [D.int o]).length + (((wsI b).map D.int).drop at_).length ≤ sizeLine := size_le (by rw [List.length_append, List.length_take, List.length_drop, lb, List.length_singleton]; omega)
  have e : ((((wsI b).map D.int).take at_ ++ [D.int o]) ++ ((wsI b).map D.int).drop at_).take 16 = (wsI (b.take at_) ++ o :: (wsI (b.drop at_)).take (15 - at_)).map .int := by
    have e1 : ((wsI b).map D.int).take at_ = (wsI (b.take at_)).map .int := by simp [wsI]
    have e2 : ((wsI b).map D.int).drop at_ = (wsI (b.drop at_)).map .int := by simp [wsI]
    have l1 : ((wsI (b.take at_)).map D.int).length = at_ := by simp [wsI]; omega
    rw [e1, e2, List.append_assoc, List.take_append, l1, List.take_of_length_le (by rw [l1]; omega)]
    have : 16 - at_ = (15 - at_) + 1 := by omega
    rw [this]
    simp
  have nb : nbR h (wsI (b.take at_) ++ o :: (wsI (b.drop at_)).take (15 - at_)) = .ex "BadImage" [("number", .int ((at_ : Nat) : Int))] h := by
    have lt : (b.take at_).length = at_ := by rw [List.length_take]; omega
    rw [nbR, fb_at ho _ (fun w m => vb.2 w (List.mem_of_mem_take m)) (by rw [lt]; omega), lt]
    simp
  refine kind_bad (x := .tup ((wsI (b.take at_) ++ o :: (wsI (b.drop at_)).take (15 - at_)).map .int)) ?_ (.inl rfl) nb
  rw [← e]
  refine st_sl (st_e2 (st_e2 (st_sl (st_v q9) (p0 _) (st_prt (st_v q8)) c1) (st_tup (st_arg (st_v q10) st_arg0)) (if_pos n1)) (st_sl (st_v q9) (st_prt (st_v q8)) (p0 _) c2) (if_pos n2)) (p0 _) (st_prt st_c) ?_
  rw [x_sl1, cut16]
theorem work2 {ρ : List (Option D)} {h : List Ob} : kindM (callM F_mended [] (consM (e2 mulA (tupM (consM (ret (.int (0))) nilM)) (ret (.int (17)))) nilM)) ⟨ρ, h⟩ = .ok (bad 16) ⟨ρ, h⟩ := by
  refine kind_bad (x := .tup ((List.replicate 17 (0 : Int)).map .int)) (st_e2 (st_tup (st_arg st_c st_arg0)) st_c ?_) (.inl rfl) (by rfl)
  have : (17 : Nat) ≤ sizeLine := size_le (by decide)
  simp [mulA, this, List.replicate]
theorem work4 {ρ : List (Option D)} {h : List Ob} : kindM (callM F_mended [] (consM (e2 mulA (frzM (lstM (consM (ret (.int (0))) nilM))) (ret (.int (17)))) nilM)) ⟨ρ, h⟩ = .ok (bad 16) ⟨ρ, h⟩ := by
  refine kind_bad (x := .lst ((List.replicate 17 (0 : Int)).map .int)) (st_e2 (st_lst (st_arg st_c st_arg0)) st_c ?_) (.inr rfl) (by rfl)
  have : (17 : Nat) ≤ sizeLine := size_le (by decide)
  simp [mulA, this, List.replicate]
theorem work3 {t : Nat} {ρ : List (Option D)} {h : List Ob} (q : ρ[11]? = some (some (.int ((t : Nat) : Int)))) : kindM (callM F_mended [] (consM (slM (tupM (consM (ret (.int (1))) (consM (ret (.int (2))) nilM))) (prt none) (prt (some (e2 modD (eV 11) (ret (.int (3))))))) nilM)) ⟨ρ, h⟩ = .ok (bad (t % 3)) ⟨ρ, h⟩ := by
  have p0 : ∀ e : En, prt none e = .ok none e := fun e => rfl
  have m3 : modD h (.int ((t : Nat) : Int)) (.int 3) = some (.int ((t % 3 : Nat) : Int)) := by
    show some (D.int (((t : Nat) : Int) % 3)) = _
    have : ((t : Nat) : Int) % 3 = ((t % 3 : Nat) : Int) := by omega
    rw [this]
  refine kind_bad (x := .tup (([1, 2] : List Int).take (t % 3) |>.map .int)) (st_sl (st_tup (st_arg st_c (st_arg st_c st_arg0))) (p0 _) (st_prt (st_e2 (st_v q) st_c m3)) ?_) (.inl rfl) ?_
  · rw [x_sl1, Fv.cut_to (by omega), Int.toNat_natCast]
    simp
  · rcases (by omega : t % 3 = 0 ∨ t % 3 = 1 ∨ t % 3 = 2) with e | e | e <;> rw [e] <;> rfl
end Lk26
set_option autoImplicit false
set_option Elab.async false
set_option linter.all false
set_option maxRecDepth 100000
set_option maxHeartbeats 4000000
namespace Lk26
open PySem PySem.Spec PyProof.Rows L2 Bm Fv LamK
theorem tl9_ok (p1 p2 : FnKey) (a0 a1 a2 a3 a4 a5 a6 a7 a8 a9 a10 a11 a12 a13 : Option D) (h : List Ob) : tl9 p1 p2 ⟨[a0, a1, a2, a3, a4, a5, a6, a7, a8, a9, a10, a11, a12, a13], h⟩ = .ok .nx ⟨[a0, a1, a2, a3, a4, a5, some (.lst [.fn 0 p1, .fn 1 p2]), a7, a8, a9, a10, a11, a12, a13], h⟩ :=
  st_set (st_lst (st_arg (f := fnM 0 p1) (e1 := ⟨[a0, a1, a2, a3, a4, a5, a6, a7, a8, a9, a10, a11, a12, a13], h⟩) rfl (st_arg (f := fnM 1 p2) (e1 := ⟨[a0, a1, a2, a3, a4, a5, a6, a7, a8, a9, a10, a11, a12, a13], h⟩) rfl st_arg0)))
theorem tl10_ok (p1 p2 p3 p4 : FnKey) (a0 a1 a2 a3 a4 a5 a7 a8 a9 a10 a11 a12 a13 : Option D) (h : List Ob) : tl10 p3 p4 ⟨[a0, a1, a2, a3, a4, a5, some (.lst [.fn 0 p1, .fn 1 p2]), a7, a8, a9, a10, a11, a12, a13], h⟩ = .ok .nx ⟨[a0, a1, a2, a3, a4, a5, some (.lst [.fn 0 p1, .fn 1 p2, .fn 2 p3, .fn 3 p4]), a7, a8, a9, a10, a11, a12, a13], h⟩ := by
  refine st_set (st_e2 (st_v rfl) (st_lst (st_arg (f := fnM 2 p3) (e1 := ⟨[a0, a1, a2, a3, a4, a5, some (.lst [.fn 0 p1, .fn 1 p2]), a7, a8, a9, a10, a11, a12, a13], h⟩) rfl (st_arg (f := fnM 3 p4) (e1 := ⟨[a0, a1, a2, a3, a4, a5, some (.lst [.fn 0 p1, .fn 1 p2]), a7, a8, a9, a10, a11, a12, a13], h⟩) rfl st_arg0))) ?_)
  have : (4 : Nat) ≤ sizeLine := size_le (by decide)
  simp [addD, this]
theorem tl11_ok {at_ t : Nat} (a0 a1 a2 a3 a4 a5 a6 a7 a9 a10 a12 a13 : Option D) (h : List Ob) : tl11 ⟨[a0, a1, a2, a3, a4, a5, a6, a7, some (.int ((at_ : Nat) : Int)), a9, a10, some (.int ((t : Nat) : Int)), a12, a13], h⟩ = .ok .nx ⟨[a0, a1, a2, a3, a4, a5, a6, some (.lst [bad at_, bad 16, bad (t % 3), bad 16]), some (.int ((at_ : Nat) : Int)), a9, a10, some (.int ((t : Nat) : Int)), a12, a13], h⟩ := by
  have m3 : modD h (.int ((t : Nat) : Int)) (.int 3) = some (.int ((t % 3 : Nat) : Int)) := by
    show some (D.int (((t : Nat) : Int) % 3)) = _
    have : ((t : Nat) : Int) % 3 = ((t % 3 : Nat) : Int) := by omega
    rw [this]
  exact st_set (st_lst (st_arg (st_tup (st_arg st_c (st_arg (st_v rfl) st_arg0))) (st_arg (st_tup (st_arg st_c (st_arg st_c st_arg0))) (st_arg (st_tup (st_arg st_c (st_arg (st_e2 (st_v rfl) st_c m3) st_arg0))) (st_arg (st_tup (st_arg st_c (st_arg st_c st_arg0))) st_arg0)))))
theorem kindFM_at {tbl : List (FnKey × M D)} {fx f : M D} {e e1 e2 : En} {k : Nat} {p : FnKey} {d : D} (q : fx e = .ok (.fn k p) e1) (t : tbl[k]? = some (p, f)) (r : kindM f e1 = .ok d e2) : kindFM tbl fx e = .ok d e2 := by
  unfold kindFM
  rw [bnd, q]
  dsimp only
  rw [t]
  dsimp only
  rw [if_pos rfl, r]
def gBad (at_ t : Nat) : D → D
  | .fn 0 _ => bad at_
  | .fn 1 _ => bad 16
  | .fn 2 _ => bad (t % 3)
  | .fn 3 _ => bad 16
  | d => d
theorem toP_bad {go : Nat → Option PyData} (k : Nat) : toPW go (bad k) = some (.tuple [.str "BadImage", .int ((k : Nat) : Int)]) := by simp [bad, toPW, Fv.toPs]
theorem same_bads (i j : Nat) (h : List Ob) : F_law_same [.lst [bad i, bad 16, bad j, bad 16], .lst [bad i, bad 16, bad j, bad 16]] h = .ok (.bl true) h := by
  refine same_refl (p := .list [.tuple [.str "BadImage", .int ((i : Nat) : Int)], .tuple [.str "BadImage", .int ((16 : Nat) : Int)], .tuple [.str "BadImage", .int ((j : Nat) : Int)], .tuple [.str "BadImage", .int ((16 : Nat) : Int)]]) ?_ ?_ ?_
  · simp [Fv.dataOf, toPW, Fv.toPs, toP_bad]
  · simp [Fv.dataOf, toPW, Fv.toPs, toP_bad]
  · simp [depD, Bm.flatD]
theorem tl12_ok {b : List Nat} {n at_ t : Nat} (vb : Vb b n) (n16 : n ≤ 16) (han : at_ ≤ n) {o : Int} (ho : ¬ (0 ≤ o ∧ o ≤ 65535)) (p1 p2 p3 p4 : FnKey) (a0 a1 a2 a3 a4 a5 a12 a13 : Option D) (h : List Ob) :
    tl12 p1 p2 p3 p4 ⟨[a0, a1, a2, a3, a4, a5, some (.lst [.fn 0 p1, .fn 1 p2, .fn 2 p3, .fn 3 p4]), some (.lst [bad at_, bad 16, bad (t % 3), bad 16]), some (.int ((at_ : Nat) : Int)), some (tI b), some (.int o), some (.int ((t : Nat) : Int)), a12, a13], h⟩ = .ok .nx ⟨[a0, a1, a2, a3, a4, a5, some (.lst [.fn 0 p1, .fn 1 p2, .fn 2 p3, .fn 3 p4]), some (.lst [bad at_, bad 16, bad (t % 3), bad 16]), some (.int ((at_ : Nat) : Int)), some (tI b), some (.int o), some (.int ((t : Nat) : Int)), a12, a13], h⟩ := by
  refine st_if_nx ?_
  have lt : bM (e2 ltD (eV 8) (ret (.int (16)))) ⟨[a0, a1, a2, a3, a4, a5, some (.lst [.fn 0 p1, .fn 1 p2, .fn 2 p3, .fn 3 p4]), some (.lst [bad at_, bad 16, bad (t % 3), bad 16]), some (.int ((at_ : Nat) : Int)), some (tI b), some (.int o), some (.int ((t : Nat) : Int)), a12, a13], h⟩ = .ok (decide (((at_ : Nat) : Int) < 16)) ⟨[a0, a1, a2, a3, a4, a5, some (.lst [.fn 0 p1, .fn 1 p2, .fn 2 p3, .fn 3 p4]), some (.lst [bad at_, bad 16, bad (t % 3), bad 16]), some (.int ((at_ : Nat) : Int)), some (tI b), some (.int o), some (.int ((t : Nat) : Int)), a12, a13], h⟩ := st_be2 (st_v rfl) st_c rfl
  by_cases c : ((at_ : Nat) : Int) < 16
  · rw [decide_eq_true c] at lt
    refine (st_and_t lt).trans (st_not (b := true) (st_bM (st_call (st_arg (drop_lc (g := gBad at_ t) (ds := [.fn 0 p1, .fn 1 p2, .fn 2 p3, .fn 3 p4]) ?_ (by simp) ?_ (by rfl)) (st_arg (st_v rfl) st_arg0)) (same_bads at_ (t % 3) h))))
    · rfl
    · intro d hd
      refine ⟨[a0, a1, a2, a3, a4, a5, some (.lst [.fn 0 p1, .fn 1 p2, .fn 2 p3, .fn 3 p4]), some (.lst [bad at_, bad 16, bad (t % 3), bad 16]), some (.int ((at_ : Nat) : Int)), some (tI b), some (.int o), some (.int ((t : Nat) : Int)), a12, some d], rfl, fun h' => ⟨rfl, ?_⟩⟩
      rcases List.mem_cons.mp hd with rfl | hd
      · exact kindFM_at (st_v rfl) rfl (work1 vb n16 (by omega) han ho rfl rfl rfl)
      · rcases List.mem_cons.mp hd with rfl | hd
        · exact kindFM_at (st_v rfl) rfl work2
        · rcases List.mem_cons.mp hd with rfl | hd
          · exact kindFM_at (st_v rfl) rfl (work3 rfl)
          · rw [List.mem_singleton.mp hd]
            exact kindFM_at (st_v rfl) rfl work4
  · rw [decide_eq_false c] at lt
    exact st_and_f lt
theorem odd_val {h : List Ob} (r : Nat) (hr : r < 3) : ∃ o : Int, ixD h (.lst [.int 65536, .int (0 - 1), .int (10 ^ 20)]) (.int ((r : Nat) : Int)) = some (.int o) ∧ ¬ (0 ≤ o ∧ o ≤ 65535) := by
  rcases (by omega : r = 0 ∨ r = 1 ∨ r = 2) with rfl | rfl | rfl
  · exact ⟨65536, rfl, by decide⟩
  · exact ⟨0 - 1, rfl, by decide⟩
  · exact ⟨10 ^ 20, rfl, by decide⟩
theorem st_odds {e : En} : frzM (lstM (consM (ret (.int (65536))) (consM (e2 subD (ret (.int (0))) (ret (.int (1)))) (consM (e2 powD (ret (.int (10))) (ret (.int (20)))) nilM)))) e = .ok (.lst [.int 65536, .int (0 - 1), .int (10 ^ 20)]) e :=
  st_lst (st_arg st_c (st_arg (st_e2 st_c st_c rfl) (st_arg (st_e2 st_c st_c (by rfl)) st_arg0)))
theorem turn_ok (p1 p2 p3 p4 : FnKey) {st : Nat} {h : List Ob} (S : StD st h) {t : Nat} (ht : t < 8) (a0 a2 a3 a4 a5 a6 a7 a8 a9 a10 a12 a13 : Option D) :
    ∃ (b2 b3 b4 b5 b6 b7 b8 b9 b10 : Option D) (h' : List Ob), turn_law p1 p2 p3 p4 ⟨[a0, some (.ref st), a2, a3, a4, a5, a6, a7, a8, a9, a10, some (.int ((t : Nat) : Int)), a12, a13], h⟩ = .ok .nx ⟨[a0, some (.ref st), b2, b3, b4, b5, b6, b7, b8, b9, b10, some (.int ((t : Nat) : Int)), a12, a13], h'⟩ ∧ StD st h' := by
  obtain ⟨ws, h1, s1, w1, w14, hw, S1⟩ := tl1_ok S ht a0 a2 a3 a4 a5 a6 a7 a8 a9 a10 a12 a13
  have s2 : tl2 ⟨[a0, some (.ref st), some (.lst ((wsI ws).map .int)), a3, a4, a5, a6, a7, a8, a9, a10, some (.int ((t : Nat) : Int)), a12, a13], h1⟩ = .ok .nx ⟨[a0, some (.ref st), some (.lst ((wsI ws).map .int)), a3, a4, a5, a6, a7, a8, some (tI (sealB ws)), a10, some (.int ((t : Nat) : Int)), a12, a13], h1⟩ := st_set (st_call1 rfl (law_block_ok (.inr rfl) hw w14 h1))
  obtain ⟨c, h2, e2', c1, S2, K2⟩ := drawV S1 (m := 5) (by decide) (by decide) (ρ := [a0, some (.ref st), some (.lst ((wsI ws).map .int)), a3, a4, a5, a6, a7, a8, some (tI (sealB ws)), a10, some (.int ((t : Nat) : Int)), a12, a13]) rfl (st_c (d := .int 5))
  obtain ⟨B1, h3, b3, l3, v1, S3⟩ := tl3_ok (ws.length + 2) (by omega) (by omega) a0 (some (.lst ((wsI ws).map .int))) a4 a5 a6 a7 a8 a10 (some (.int ((t : Nat) : Int))) a12 a13 (rangeL 0 ((c : Nat) : Int).toNat) h2 (sealB ws) a3 S2 (sealB_lt w14 hw)
  have s3 : tl3 ⟨[a0, some (.ref st), some (.lst ((wsI ws).map .int)), a3, a4, a5, a6, a7, a8, some (tI (sealB ws)), a10, some (.int ((t : Nat) : Int)), a12, a13], h1⟩ = .ok .nx ⟨[a0, some (.ref st), some (.lst ((wsI ws).map .int)), b3, a4, a5, a6, a7, a8, some (tI B1), a10, some (.int ((t : Nat) : Int)), a12, a13], h3⟩ :=
    st_for (st_rngI (j := ((c : Nat) : Int)) (st_arg e2' st_arg0) (by omega) (by omega)) l3
  obtain ⟨B2, h4, b4, s4, v2, S4⟩ := tl4_ok S3 w1 w14 hw v1 a0 b3 a4 a5 a6 a7 a8 a10 (some (.int ((t : Nat) : Int))) a12 a13
  obtain ⟨B3, n, h5, s5, v3, n3, n16, S5⟩ := tl5_ok S4 v2 (by omega) (by omega) a0 (some (.lst ((wsI ws).map .int))) b3 b4 a5 a6 a7 a8 a10 (some (.int ((t : Nat) : Int))) a12 a13
  have s6 := tl6_ok v3 n3 n16 a0 (some (.ref st)) (some (.lst ((wsI ws).map .int))) b3 b4 a5 a6 a7 a8 a10 (some (.int ((t : Nat) : Int))) a12 a13 h5
  obtain ⟨at_, h6, e7, r7, S6, K6⟩ := drawV S5 (m := ((n : Nat) : Int) + 1) (by omega) (by omega) (ρ := [a0, some (.ref st), some (.lst ((wsI ws).map .int)), b3, b4, some (.int 1), a6, a7, a8, some (tI B3), a10, some (.int ((t : Nat) : Int)), a12, a13]) rfl (f := e2 addD (cN lenD (consM (eV 9) nilM)) (ret (.int (1)))) (st_e2 (lenB (st := st) v3.1 _ rfl) st_c rfl)
  have s7 : tl7 ⟨[a0, some (.ref st), some (.lst ((wsI ws).map .int)), b3, b4, some (.int 1), a6, a7, a8, some (tI B3), a10, some (.int ((t : Nat) : Int)), a12, a13], h5⟩ = .ok .nx ⟨[a0, some (.ref st), some (.lst ((wsI ws).map .int)), b3, b4, some (.int 1), a6, a7, some (.int ((at_ : Nat) : Int)), some (tI B3), a10, some (.int ((t : Nat) : Int)), a12, a13], h6⟩ := st_set e7
  obtain ⟨r, h7, e8, r8, S7, K7⟩ := drawV S6 (m := 3) (by decide) (by decide) (ρ := [a0, some (.ref st), some (.lst ((wsI ws).map .int)), b3, b4, some (.int 1), a6, a7, some (.int ((at_ : Nat) : Int)), some (tI B3), a10, some (.int ((t : Nat) : Int)), a12, a13]) rfl (st_c (d := .int 3))
  obtain ⟨o, eo, ho⟩ := odd_val (h := h7) r (by omega)
  have s8 : tl8 ⟨[a0, some (.ref st), some (.lst ((wsI ws).map .int)), b3, b4, some (.int 1), a6, a7, some (.int ((at_ : Nat) : Int)), some (tI B3), a10, some (.int ((t : Nat) : Int)), a12, a13], h6⟩ = .ok .nx ⟨[a0, some (.ref st), some (.lst ((wsI ws).map .int)), b3, b4, some (.int 1), a6, a7, some (.int ((at_ : Nat) : Int)), some (tI B3), some (.int o), some (.int ((t : Nat) : Int)), a12, a13], h7⟩ := st_set (st_e2 st_odds e8 eo)
  have s9 := tl9_ok p1 p2 a0 (some (.ref st)) (some (.lst ((wsI ws).map .int))) b3 b4 (some (.int 1)) a6 a7 (some (.int ((at_ : Nat) : Int))) (some (tI B3)) (some (.int o)) (some (.int ((t : Nat) : Int))) a12 a13 h7
  have s10 := tl10_ok p1 p2 p3 p4 a0 (some (.ref st)) (some (.lst ((wsI ws).map .int))) b3 b4 (some (.int 1)) a7 (some (.int ((at_ : Nat) : Int))) (some (tI B3)) (some (.int o)) (some (.int ((t : Nat) : Int))) a12 a13 h7
  have s11 := tl11_ok (at_ := at_) (t := t) a0 (some (.ref st)) (some (.lst ((wsI ws).map .int))) b3 b4 (some (.int 1)) (some (.lst [.fn 0 p1, .fn 1 p2, .fn 2 p3, .fn 3 p4])) a7 (some (tI B3)) (some (.int o)) a12 a13 h7
  have s12 := tl12_ok v3 n16 (at_ := at_) (t := t) (by omega) ho p1 p2 p3 p4 a0 (some (.ref st)) (some (.lst ((wsI ws).map .int))) b3 b4 (some (.int 1)) a12 a13 h7
  have z : turn_law p1 p2 p3 p4 ⟨[a0, some (.ref st), a2, a3, a4, a5, a6, a7, a8, a9, a10, some (.int ((t : Nat) : Int)), a12, a13], h⟩ = .ok .nx ⟨[a0, some (.ref st), some (.lst ((wsI ws).map .int)), b3, b4, some (.int 1), some (.lst [.fn 0 p1, .fn 1 p2, .fn 2 p3, .fn 3 p4]), some (.lst [bad at_, bad 16, bad (t % 3), bad 16]), some (.int ((at_ : Nat) : Int)), some (tI B3), some (.int o), some (.int ((t : Nat) : Int)), a12, a13], h7⟩ := by
    rw [tl_u]
    exact (st_seq s1).trans ((st_seq s2).trans ((st_seq s3).trans ((st_seq s4).trans ((st_seq s5).trans ((st_seq s6).trans ((st_seq s7).trans ((st_seq s8).trans ((st_seq s9).trans ((st_seq s10).trans ((st_seq s11).trans s12))))))))))
  exact ⟨_, _, _, _, _, _, _, _, _, h7, z, S7⟩
theorem turns_ok (p1 p2 p3 p4 : FnKey) {st : Nat} (a0 a12 a13 : Option D) : ∀ (ts : List Nat) {h : List Ob} (_ : StD st h) (_ : ∀ t ∈ ts, t < 8) (a2 a3 a4 a5 a6 a7 a8 a9 a10 a11 : Option D),
    ∃ (ρ : List (Option D)) (h' : List Ob), forL (putS 11) (turn_law p1 p2 p3 p4) (ts.map fun i : Nat => D.int ((i : Nat) : Int)) ⟨[a0, some (.ref st), a2, a3, a4, a5, a6, a7, a8, a9, a10, a11, a12, a13], h⟩ = .ok .nx ⟨ρ, h'⟩
  | [], h, _, _, a2, a3, a4, a5, a6, a7, a8, a9, a10, a11 => ⟨_, h, rfl⟩
  | t :: ts, h, S, ht, a2, a3, a4, a5, a6, a7, a8, a9, a10, a11 => by
    obtain ⟨b2, b3, b4, b5, b6, b7, b8, b9, b10, h1, e, S1⟩ := turn_ok p1 p2 p3 p4 S (ht t (.head _)) a0 a2 a3 a4 a5 a6 a7 a8 a9 a10 a12 a13
    obtain ⟨ρ, h2, e'⟩ := turns_ok p1 p2 p3 p4 a0 a12 a13 ts S1 (fun u hu => ht u (.tail _ hu)) b2 b3 b4 b5 b6 b7 b8 b9 b10 (some (.int ((t : Nat) : Int)))
    exact ⟨ρ, h2, (for_step rfl e).trans e'⟩
theorem law_plain (p1 p2 p3 p4 : FnKey) (ns : List Int) (hl : ns.length ≤ 63) : ∃ h', F_law p1 p2 p3 p4 [.scr (ns.map D.int)] [] = .ok (.bl true) h' := by
  obtain ⟨h0, e, S⟩ := start_st ns
  obtain ⟨ρ, h', u⟩ := turns_ok p1 p2 p3 p4 (some (.scr (ns.map D.int))) none none (List.range 8) S (fun t ht => by simpa using ht) none none none none none none none none none none
  refine ⟨h', ?_⟩
  have fi : rng1 (consM (ret (.int (8))) nilM) ⟨[some (.scr (ns.map D.int)), some (.ref 0), none, none, none, none, none, none, none, none, none, none, none, none], h0⟩ = .ok ((List.range 8).map fun i : Nat => D.int ((i : Nat) : Int)) ⟨[some (.scr (ns.map D.int)), some (.ref 0), none, none, none, none, none, none, none, none, none, none, none, none], h0⟩ := by
    rw [← rng_nats 8]
    exact st_rngI (j := 8) (st_arg rfl st_arg0) (by decide) (by decide)
  have ul : B_law p1 p2 p3 p4 = seqM (setM (callM F_law_start [] (consM (eV 0) nilM)) (putS 1)) (seqM (forM (rng1 (consM (ret (.int (8))) nilM)) (putS 11) (turn_law p1 p2 p3 p4)) (retM (ret (.bl true)))) := rfl
  refine st_def (n := 14) (B := B_law p1 p2 p3 p4) (ds := [.scr (ns.map D.int)]) (h := []) (d := .bl true) (e := ⟨ρ, h'⟩) (ρ := [some (.scr (ns.map D.int)), none, none, none, none, none, none, none, none, none, none, none, none, none]) rfl ?_
  rw [ul, st_seq (st_set (st_call1 rfl e))]
  dsimp only [List.set]
  rw [st_seq (st_for fi u)]
  rfl
end Lk26
set_option autoImplicit false
set_option Elab.async false
set_option linter.all false
set_option maxRecDepth 100000
set_option maxHeartbeats 0
namespace Lk26
open PySem PySem.Spec PyProof.Rows L2 Bm
theorem atS {w : World} {K : PySem.W.Frag} {h : Heap} {mg : Str → Option Value} {f : Addr} (X : K.In h) (G : h.Ns mainGlobals mg) (hmg : mg ("law" : Str) = some (.ref f)) (c : He.SaysX fa fn ts tf xAll w h K) :
    LamX.LawAtS PySem.Challenge.rw_bitmill_k26_any_blocks_mended w K CX0 7 63 "_law_script" mg f h := by
  have T : Txt K mg := txt_of X G c
  have Df : Defs K := defs_of c
  obtain ⟨fd, F⟩ := Df.law
  have e := hmg.symm.trans T.g_law
  cases e
  have b := FunD.bindsA (ps := ["_law_script"]) F fun _ _ _ _ _ _ us hl => match us, hl with | [_], _ => rfl
  have ht : (("law", none) : He.Defn) ∈ tf := List.mem_singleton.mpr rfl
  refine ⟨fd, [He.cT K ("law", none)], Fv.spLaw K, fun p hp => ?_, fun p hp => ?_, fun p hp => ?_, fun s u => b s [u] rfl, fun H a ns hl hb ht hS => ?_, fun base hK hN hT => ?_⟩
  · rw [List.mem_singleton.mp hp]
    exact c.empty _ ht
  · rw [List.mem_singleton.mp hp]
    exact c.out _ ht
  · rw [List.mem_singleton.mp hp]
    exact PySem.W.codeHd_of_K X (c.hd _ ht)
  · exact ⟨a, ns, rfl, hS, hl, ht _ (List.mem_singleton.mpr rfl), fun _ => rfl⟩
  · exact ok_law T Df (hT _ (List.mem_singleton.mpr rfl)) F law_plain
end Lk26
open PySem PySem.W PySem.Calls PyProof.Rows
theorem PySem.Challenge.cw_bitmill_k26_any_blocks_mended_holds : PySem.Challenge.rw_bitmill_k26_any_blocks_mended.Holds := by
  w_on; o_law
  refine HandSHeadRun.head_any (r := OpenLaw.row PySem.Challenge.rw_bitmill_k26_any_blocks_mended) (q := view (OpenLaw.row PySem.Challenge.rw_bitmill_k26_any_blocks_mended).prog [31]) (H := Lk26.hk) (ob := Lk26.ob) (M := 9000) (loose := Lk26.names) (d := HandSHeadRun.topDef (OpenLaw.row PySem.Challenge.rw_bitmill_k26_any_blocks_mended).prog 31) (kwd := []) Lk26.ob_eq
    (by kernel_rfl) (fun s => by kernel_rfl) Lk26.run (by kernel_rfl) (by kernel_rfl) (by kernel_rfl) (by rfl) (by first | assumption | decide +kernel) (by decide +kernel) ⟨rfl, rfl, rfl, rfl, rfl, by decide +kernel⟩ ?hw ?hc
  case hw => w_witness2
  case hc =>
    refine LamX.walk_ofTsE (l := PySem.Challenge.rw_bitmill_k26_any_blocks_mended) (n := 63) (k := 7) (x := "_law_script") (CX := fun _ => L2.CX0) rfl (by decide) (by kernel_rfl) ⟨rfl, by decide, by decide⟩ ?F (fun _ _ _ _ _ z => z)
    intro w mg fa h Y G hmg0
    obtain ⟨K, KX, c⟩ := Y
    have hmg : mg ("law" : PySem.Str) = some (.ref fa) := by
      have e : (HandSHeadRun.topDef (OpenLaw.row PySem.Challenge.rw_bitmill_k26_any_blocks_mended).prog 31).name = ("law" : PySem.Str) := by kernel_rfl
      rw [← e]
      exact hmg0
    exact ⟨K, KX, Lk26.atS KX G hmg c⟩
