import PyProof.Rows.All
import Wide.All
import OpenK.AllK
import Wide.FinOn
import KE.KStateDown
import KE.KExcIs
import HandS.ForMost
import HandS.ForExc
import HandS.Evl
import HandS.Defaults
import HandS.IsInst
import HandS.ExcInit
import HandS.ExcIs
import HandS.ExcField
import HandS.Lambda
import HandS.EndTab
import HandS.CallSlots
import HandS.Head2
import HandS.HeadHook4
import HandS.HeadNt
import HandS.HeadWalk
import HandS.StrMore
import HandS.Flow
import PySem.Challenge.RW_bitmill_k04_whole_words_and_deeds_go_ove
import KE.GoesEnum
import KE.GoesMore
import HandS.TupAny
import HandS.WideBits
import HandS.Walk
import HandS.Text
import HandS.NoneIn
import KE.KDictPairs
import KE.KDictLaw
import KE.KDictKeyed
import KE.KeyNested
import HandS.ExcOwn
import HandS.Wide
import HandS.TupMul
import HandS.Rev
import HandS.RevRange
import HandS.Style
import HandS.MakeKw
import KE.GoesEnumKw
import HandS.Strs
import KE.KTupSum
import HandS.Conv
import KE.KDflt
import HandS.Deep
set_option Elab.async false
set_option linter.all false
set_option maxRecDepth 100000
set_option maxHeartbeats 4000000
namespace Bm
open PySem PySem.Spec PyProof.Rows L2

/-! ### defs as they are called -/
structure Fn (P : Program) (w : World) (K : PySem.W.Frag) (mg : Str → Option Value) (base : Heap) (CX : CXT) (k : Nat) (x : Str) (sp : Sp) (dvs : List V) : Prop where
  ex : ∃ (f : Addr) (fd : FuncData) (ps : List Str) (ds : List Value), mg x = some (.ref f) ∧ PySem.W.keepIn K (.ref f) = true ∧ L2.Binds K fd ps ds ∧ Vals dvs ds ∧ FnOk P w K mg base CX k f fd ps sp
theorem pe_f {X : Cx} {CX : CXT} {k j : Nat} {x : Str} {sp : Sp} {dvs : List V} {E : XK} {e : Expr} {es : List Expr} {t : TA} {p pos : Pos} (c : Fn X.prog X.w X.K X.mg X.base CX k x sp dvs) (hr : Room j X.A) (hk : k ≤ j) (hx : Passes CX X E) (ha : PA X (e :: es) t) (hg : Gl X x := by rfl)
    (hdb : (x == ("__debug__" : Str)) = false := by decide) (he : starEach (e :: es) X.env = (false, eval e X.env) :: starEach es X.env := by rfl) (hpl : (backTo pos (starEach es X.env)).any (·.1) = false := by rfl) :
    PE X (.Call (.Name x p) (e :: es) [] pos) (tCall sp dvs E t) := by
  obtain ⟨f, fd, ps, ds, hm, hkp, hb, hd, F⟩ := c.ex
  exact pe_call F (hr.mono hk) hg hm hkp hb hd hx ha hdb he hpl

/-! ### list.count of flat things -/
section
variable {X : Cx}
def rCntF (K : PySem.W.Frag) : V → List V → Hp → VK → Prop := fun x xs H Q => ∃ (p : Addr) (ys : List V) (y : V), x = .ref p ∧ xs = [y] ∧ SqL K H p ys ∧ flatV y = true ∧ ys.all flatV = true ∧ Q (.int (ys.countP (fun z => eqV z y) : Nat)) H
theorem cnt_eq {y : V} : ∀ {ys : List V} {us : List Value}, Vals ys us → ys.all flatV = true → us.countP (eqU y) = ys.countP (fun z => eqV z y)
  | _, _, .nil, _ => rfl
  | z :: ys, u :: us, .cons r t, f => by
    rw [List.all_cons, Bool.and_eq_true] at f
    rw [List.countP_cons, List.countP_cons, cnt_eq t f.2, eqU_of r f.1]
theorem mt_lcountF : MtR X "list.count" (rCntF X.K) := by
  intro pins s σ H x xs v us Q I rx rxs h
  obtain ⟨p, ys, y, rfl, rfl, hs, fy, fys, q⟩ := h
  cases rx
  cases rxs with
  | cons ry rt =>
    rename_i uy ut
    cases rt
    obtain ⟨its, rv, ⟨⟨cls, dd, data, sl⟩, n, ho, hc, hdn, hd⟩, hlen⟩ := I.list hs
    simp only at hc hd
    subst hc hd
    refine call_meets PySem.F.slot_list_count ⟨_, ho, rfl⟩ PySem.F.entry_list_count (PySem.F.args_list_count_2 _ _)
      (SeqAt.list_countAt p its.toArray n dd sl uy (eqU y)) ⟨ho, fun u hu => mem_eqAt ry fy rv fys u (by simpa using hu), ?_⟩
    have ec : its.toArray.toList.countP (eqU y) = ys.countP (fun z => eqV z y) := cnt_eq rv fys
    refine ⟨.int (ys.countP (fun z => eqV z y) : Nat), H, I.tok _, ⟨s.toks, ?_⟩, q⟩
    show Value.int ((its.toArray.toList.countP (eqU y) : Nat) : Int) s.toks = Value.int ((ys.countP (fun z => eqV z y) : Nat) : Int) s.toks
    rw [ec]
end

/-! ### isinstance(e, C) of the caught exception, its class any of ours -/
def rIsX (K : PySem.W.Frag) (a : Addr) (cls : Value) (d : Option Addr) : List V → Hp → VK → Prop := fun xs H Q => ∃ (D : Addr) (c : V) (cv : Value) (b : Bool), cls = .ref D ∧ ExcC K D ∧ (d = none ∨ ∃ dd fs, d = some dd ∧ H dd = some (.xd fs)) ∧
  xs = [.ref a, c] ∧ (∀ u, RelV c u → u = cv) ∧ PySem.W.kitOne K (.ref D) cv = some b ∧ Q (.bl b) H
theorem call_isX {X : Cx} {a : Addr} {cls : Value} {d : Option Addr} {oe : Obj} {pn : List (Addr × Obj)} (hz : Zc cls d oe) (hf : ∃ vs, oe.data = .fields vs) : CallR (X.suite a ((a, oe) :: pn)) (.builtin "isinstance") (rIsX X.K a cls d) := by
  intro pins s σ H xs us Q I r h
  obtain ⟨D, c, cv, b, rfl, C, hd, rfl, hcv, e, q⟩ := h
  cases r with
  | cons rx rr =>
    cases rr with
    | cons rt rr =>
      cases rr
      cases rx
      have ec := hcv _ rt
      subst ec
      obtain ⟨hget, _⟩ := I.pin (a, oe) (List.mem_append.mpr (.inl List.mem_cons_self))
      obtain ⟨vs, hv⟩ := hf
      have J : ∃ od, PySem.W.InstAt s.heap a oe D od := by
        obtain ⟨oc, odi, oda, osl⟩ := oe
        obtain ⟨h1, h2⟩ := hz
        dsimp only at h1 h2 hv
        subst h1 h2 hv
        rcases hd with hd | ⟨dd, fs, hd, hH⟩
        · subst hd
          exact ⟨none, hget, rfl, rfl, trivial⟩
        · subst hd
          have hx : ObjOk X.prog X.w H s.heap dd (.xd fs) := I.hok dd _ hH
          obtain ⟨mA, ⟨od, es, ep, ho, hr⟩, _⟩ := hx
          exact ⟨some od, hget, rfl, rfl, ho⟩
      obtain ⟨od, J⟩ := J
      have hcl : (PySem.W.clsIn X.K D).isSome = true := by
        obtain ⟨cd, hc, _⟩ := PySem.W.any_some C.hd
        rw [hc] <;> rfl
      exact PySem.W.kia_one (PySem.W.kitx_exc (ox := oe) (od := od) hcl C.hg C.hk C.hs C.ha C.hn C.ht C.hm) I.kIn J e (fun z => nomatch z) fun tk => ⟨.bl b, H, I.kept (t' := tk) fun _ _ z => z, rfl, q⟩

/-! ### M.__init__(self, ..), M a class of the program over ValueError without an __init__ -/
theorem pe_minit {X : Cx} {x : Str} {CM : Addr} {e : Expr} {es : List Expr} {ta : TA} {p1 p2 pos : Pos} {pl : Sem Bool} (hg : Gl X x) (hm : X.mg x = some (.ref CM)) (hs : PySem.W.specialIn X.K (.ref CM) "__getattribute__" = some (some (.builtin "type.__getattribute__"))) (hrd : PySem.W.readsIn X.K CM (.type "type") = true)
    (vV : PySem.W.findCls X.K (.ref CM) (.type "type") "__init__" = some (.val (.builtin "ValueError.__init__"))) (ha : PA X (e :: es) ta) (hdb : (x == ("__debug__" : Str)) = false := by decide)
    (hc : eval (.Call (.Attribute (.Name x p1) "__init__" p2) (e :: es) [] pos) X.env = (do
      let ov ← eval (.Name x p1) X.env
      standAt p2.atName
      let (f, first) ← holding [ov] (getMethod ov "__init__" pl)
      callWith pos f first (backTo pos (starEach (e :: es) X.env)) (backToKw pos (keywordEach [] X.env))) := by rfl)
    (he : starEach (e :: es) X.env = (false, eval e X.env) :: starEach es X.env := by rfl) (hpl : (backTo pos (starEach es X.env)).any (·.1) = false := by rfl) :
    PE X (.Call (.Attribute (.Name x p1) "__init__" p2) (e :: es) [] pos) (tVeI X.K ta) := by
  refine ⟨fun pins s σ H Q I h => ?_⟩
  refine PySem.W.methodCall_KW (ld_glob I hg hm ?_ hdb) hc
  refine PySem.W.method_cls I.kIn hs (PySem.W.cls_value I.kIn hrd vV (by decide +kernel) ?_)
  show wpAny _ _ (callWith pos (Value.builtin "ValueError.__init__") [] (backTo pos (starEach (e :: es) X.env)) []) _ _ _
  refine PyProof.Rows.callWith_method1 (thn (ha.run pos pins _ σ H _ (I.tok _) h) fun us s1 ⟨vs, H1, I1, r1, a, C, ws, ev, hl, T, ea, q⟩ => ?_) he hpl
  subst ev
  cases r1 with
  | @cons _ u0 _ ur ra rw' =>
    obtain rfl : u0 = Value.ref a := ra
    have hlen : ur.length ≤ sizeLine := by
      rw [← Paired.length rw', sizeLine_eq]
      omega
    exact oinit_ok T I1 ea hlen fun s' J => ⟨.non, H1, J, rfl, q⟩
end Bm


set_option Elab.async false
set_option linter.all false
set_option maxRecDepth 100000
set_option maxHeartbeats 4000000
namespace Bm
open PySem PySem.Spec PyProof.Rows L2 He
/-! ### the hook: what the top leaves, the statics among it -/
def asB (g : Addr → Option Obj) (n : Nat) : List Addr := He.asD g n ++ [cStatics]
def obsB (n : Nat) (fa : List Fa) (fn : List DefD) (ts : List Tab) (tf : List Defn) (ex : PySem.W.Frag → Bool) (g : Addr → Option Obj) : AlX := (obsT fa fn ts (frT g (asB g n)), ex (frT g (asB g n)) && tabsB g tf (frT g (asB g n)))
theorem saysB_of {n : Nat} {fa : List Fa} {fn : List DefD} {ts : List Tab} {tf : List Defn} {ex : PySem.W.Frag → Bool} {w : World} {h : Heap} (e : obsB n fa fn ts tf ex h.get? = valX fn ts w) : SaysX fa fn ts tf ex w h (frT h.get? (asB h.get? n)) := by
  have e1 : obsT fa fn ts (frT h.get? (asB h.get? n)) = valT fn ts w := congrArg (fun z : AlX => z.1) e
  have e2 : (ex (frT h.get? (asB h.get? n)) && tabsB h.get? tf (frT h.get? (asB h.get? n))) = true := congrArg (fun z : AlX => z.2) e
  obtain ⟨h1, h2⟩ := ba e2
  have key : ∀ p ∈ tf, PySem.W.codeHdIn (frT h.get? (asB h.get? n)) (cT (frT h.get? (asB h.get? n)) p).1 (cT (frT h.get? (asB h.get? n)) p).2 = true ∧ ∃ o, h.get? (cT (frT h.get? (asB h.get? n)) p).2 = some o ∧ emptyTab o = true := fun p hp => by
    obtain ⟨h3, h4⟩ := ba (List.all_eq_true.mp h2 p hp)
    refine ⟨h3, ?_⟩
    cases q : h.get? (cT (frT h.get? (asB h.get? n)) p).2 with
    | none =>
      rw [q] at h4
      cases h4
    | some o =>
      rw [q] at h4
      exact ⟨o, rfl, h4⟩
  exact ⟨e1, h1, fun p hp => (key p hp).1, fun p hp => by
    obtain ⟨_, o, q, z⟩ := key p hp
    exact frT_none q z, fun p hp => by
    obtain ⟨_, o, q, z⟩ := key p hp
    rw [q, emptyTab_eq z]⟩
def hookB (n : Nat) (fa : List Fa) (fn : List DefD) (ts : List Tab) (tf : List Defn) (ex : PySem.W.Frag → Bool) : PySem.W.Hook where
  α := AlX
  obs := fun s => obsB n fa fn ts tf ex s.heap.get?
  val := fun w => valX fn ts w
  says := fun w h => ∃ K : PySem.W.Frag, K.In h ∧ SaysX fa fn ts tf ex w h K
  of := fun _ _ e => ⟨_, frT_in, saysB_of e⟩
  keeps := fun _ _ _ ⟨K, hK, c⟩ k => ⟨K, PySem.W.Frag.In.keeps hK k, ⟨c.t, c.more, c.hd, c.out, fun p hp => k _ _ (c.empty p hp)⟩⟩
theorem obsB_eq {n : Nat} {fa : List Fa} {fn : List DefD} {ts : List Tab} {tf : List Defn} {ex : PySem.W.Frag → Bool} {g : Addr → Option Obj} {s : Shared} (h : ∀ a, g a = s.heap.get? a) : obsB n fa fn ts tf ex g = (hookB n fa fn ts tf ex).obs s := by
  have e : g = s.heap.get? := funext h
  rw [e] <;> rfl
/-! ### facts of classes of exceptions, as Bools -/
def oexB (K : PySem.W.Frag) (C : Addr) : Bool := (match K.lookup C with
  | some ⟨.type t, dd, .cls cd, sl⟩ => (match cd.mro, sl.toList with
    | .ref C' :: bm, [_, _, _, _, some (.builtin n), _] => decide (t = "type") && (decide (C' = C) && (decide (n = "ValueError.__new__") && (!cd.hasDel && (cd.hasDict && PySem.HandSPX.refsVE bm))))
    | _, _ => false)
  | _ => false) && (eqO (PySem.W.findIn K (.ref C) "__setattr__") (some (some (.builtin "object.__setattr__"))) && (decide (PySem.W.subIn K (.ref C) (.type "BaseException") = some true) && (decide (PySem.W.typeIn K (.ref C) = some (.type "type")) && PySem.W.keepIn K (.ref C))))
theorem oexB_ok {K : PySem.W.Frag} {C : Addr} (h : oexB K C = true) : OexC K C := by
  obtain ⟨h1, h⟩ := ba h
  obtain ⟨h2, h⟩ := ba h
  obtain ⟨h3, h⟩ := ba h
  obtain ⟨h4, h5⟩ := ba h
  refine ⟨?_, eqO_ok h2, of_decide_eq_true h3, of_decide_eq_true h4, h5⟩
  cases q : K.lookup C with
  | none =>
    rw [q] at h1
    cases h1
  | some o =>
    obtain ⟨oc, od, dt, sl⟩ := o
    rw [q] at h1
    cases oc with
    | type t =>
      cases dt with
      | cls cd =>
        obtain ⟨nm, bs, mro, ns, qn, hd, sn, sub, ab, col, del⟩ := cd
        obtain ⟨l⟩ := sl
        dsimp only at h1
        split at h1
        · rename_i C' bm k0 k1 k2 k3 n k5
          obtain ⟨e1, h1⟩ := ba h1
          obtain ⟨e2, h1⟩ := ba h1
          obtain ⟨e3, h1⟩ := ba h1
          obtain ⟨e4, h1⟩ := ba h1
          obtain ⟨e5, e6⟩ := ba h1
          have e1 := of_decide_eq_true e1
          have e2 := of_decide_eq_true e2
          have e3 := of_decide_eq_true e3
          subst e1 e2 e3
          have e4 : del = false := by
            cases del with
            | false => rfl
            | true => cases e4
          subst e4
          have e5 : hd = true := e5
          subst e5
          exact ⟨nm, qn, ns, bs, bm, sn, sub, ab, col, od, k0, k1, k2, k3, k5, rfl, e6⟩
        · cases h1
      | _ => cases h1
    | _ => cases dt <;> cases h1
def excCB (K : PySem.W.Frag) (D : Addr) : Bool := eqO (PySem.W.findIn K (.ref D) "__getattribute__") (some (some (.builtin "BaseException.__getattribute__"))) && (eqO (PySem.W.findIn K (.ref D) "__getattr__") (some none) && (decide (PySem.W.subIn K (.ref D) (.type "BaseException") = some true) &&
  (PySem.W.hasDictIn K D && (eqO (PySem.W.findIn K (.ref D) "__class__") (some (some (.builtin "object.__class__"))) && (eqO (PySem.W.specialIn K (.builtin "object.__class__") "__get__") (some (some (.builtin "getset_descriptor.__get__"))) &&
  (decide (PySem.W.takesIn K (.builtin "object.__class__") = some true) && decide (PySem.W.mroIn K D (.type "object") = some true)))))))
theorem excCB_ok {K : PySem.W.Frag} {D : Addr} (h : excCB K D = true) : ExcC K D := by
  obtain ⟨h1, h⟩ := ba h
  obtain ⟨h2, h⟩ := ba h
  obtain ⟨h3, h⟩ := ba h
  obtain ⟨h4, h⟩ := ba h
  obtain ⟨h5, h⟩ := ba h
  obtain ⟨h6, h⟩ := ba h
  obtain ⟨h7, h8⟩ := ba h
  exact ⟨eqO_ok h1, eqO_ok h2, of_decide_eq_true h3, h4, eqO_ok h5, eqO_ok h6, of_decide_eq_true h7, of_decide_eq_true h8⟩
end Bm


set_option Elab.async false
set_option linter.all false
set_option maxRecDepth 100000
set_option maxHeartbeats 4000000
namespace Bm
open PySem PySem.Spec PyProof.Rows L2 He
/-! ### the errors' classes -/
def plainX : List Str := ["BadDeed", "BadReach", "NoDeed", "BadCount", "NoMend"]
def numX : List Str := ["BadImage", "BadGiven", "BadList"]
def allX : List Str := ["BadDeed", "BadReach", "NoDeed", "BadCount", "NoMend", "BadImage", "BadGiven", "BadList", "BadRow"]
def xB (K : PySem.W.Frag) : Bool :=
  (allX.all fun x => decide (PySem.W.exmOne K (.ref (ga K x)) (.ref (ga K "MillError")) = some true) && (excCB K (ga K x) && (decide (PySem.W.kitOne K (.ref (ga K x)) (.type "ValueError") = some true) && allX.all fun y => decide (PySem.W.kitOne K (.ref (ga K x)) (.ref (ga K y)) = some (decide (x = y)))))) &&
  ((plainX.all fun x => (Fa.exc x).ok K) &&
  ((numX.all fun x => oexB K (ga K x) && (eqO (PySem.W.findIn K (.ref (ga K x)) "__init__") (some (some (.ref (ma K (ga K "Numbered") "__init__")))) && (eqO (PySem.W.findIn K (.ref (ga K x)) "number") (some none) && xfB K (ga K x)))) &&
  (oexB K (ga K "BadRow") && (eqO (PySem.W.findIn K (.ref (ga K "BadRow")) "__init__") (some (some (.ref (ma K (ga K "BadRow") "__init__")))) && (eqO (PySem.W.findIn K (.ref (ga K "BadRow")) "row") (some none) && (eqO (PySem.W.findIn K (.ref (ga K "BadRow")) "why") (some none) && (xfB K (ga K "BadRow") &&
  (decide (PySem.W.typeIn K (.ref (ma K (ga K "Numbered") "__init__")) = some (.type "function")) && (decide (PySem.W.typeIn K (.ref (ma K (ga K "BadRow") "__init__")) = some (.type "function")) &&
  (eqO (PySem.W.specialIn K (.ref (ga K "MillError")) "__getattribute__") (some (some (.builtin "type.__getattribute__"))) && (PySem.W.readsIn K (ga K "MillError") (.type "type") &&
  (match PySem.W.findCls K (.ref (ga K "MillError")) (.type "type") "__init__" with
    | some (.val (.builtin n)) => decide (n = "ValueError.__init__")
    | _ => false))))))))))))
structure XF (K : PySem.W.Frag) : Prop where
  exm : ∀ x ∈ allX, PySem.W.exmOne K (.ref (ga K x)) (.ref (ga K "MillError")) = some true
  exc : ∀ x ∈ allX, ExcC K (ga K x)
  kitV : ∀ x ∈ allX, PySem.W.kitOne K (.ref (ga K x)) (.type "ValueError") = some true
  kit : ∀ x ∈ allX, ∀ y ∈ allX, PySem.W.kitOne K (.ref (ga K x)) (.ref (ga K y)) = some (decide (x = y))
  plain : ∀ x ∈ plainX, PySem.W.excIn K (ga K x) veBase "ValueError.__new__" = true ∧ PySem.W.keepIn K (.ref (ga K x)) = true ∧ PySem.W.subIn K (.ref (ga K x)) (.type "BaseException") = some true ∧ PySem.W.typeIn K (.ref (ga K x)) = some (.type "type")
  num : ∀ x ∈ numX, OexC K (ga K x) ∧ PySem.W.findIn K (.ref (ga K x)) "__init__" = some (some (.ref (ma K (ga K "Numbered") "__init__"))) ∧ PySem.W.findIn K (.ref (ga K x)) "number" = some none ∧ XfC K (ga K x)
  rowO : OexC K (ga K "BadRow")
  rowI : PySem.W.findIn K (.ref (ga K "BadRow")) "__init__" = some (some (.ref (ma K (ga K "BadRow") "__init__")))
  rowR : PySem.W.findIn K (.ref (ga K "BadRow")) "row" = some none
  rowW : PySem.W.findIn K (.ref (ga K "BadRow")) "why" = some none
  rowX : XfC K (ga K "BadRow")
  tyN : PySem.W.typeIn K (.ref (ma K (ga K "Numbered") "__init__")) = some (.type "function")
  tyR : PySem.W.typeIn K (.ref (ma K (ga K "BadRow") "__init__")) = some (.type "function")
  mS : PySem.W.specialIn K (.ref (ga K "MillError")) "__getattribute__" = some (some (.builtin "type.__getattribute__"))
  mR : PySem.W.readsIn K (ga K "MillError") (.type "type") = true
  mV : PySem.W.findCls K (.ref (ga K "MillError")) (.type "type") "__init__" = some (.val (.builtin "ValueError.__init__"))
theorem xB_ok {K : PySem.W.Frag} (h : xB K = true) : XF K := by
  obtain ⟨h1, h⟩ := ba h
  obtain ⟨h2, h⟩ := ba h
  obtain ⟨h3, h⟩ := ba h
  obtain ⟨h4, h⟩ := ba h
  obtain ⟨h5, h⟩ := ba h
  obtain ⟨h6, h⟩ := ba h
  obtain ⟨h7, h⟩ := ba h
  obtain ⟨h8, h⟩ := ba h
  obtain ⟨h9, h⟩ := ba h
  obtain ⟨h10, h⟩ := ba h
  obtain ⟨h11, h⟩ := ba h
  obtain ⟨h12, h13⟩ := ba h
  have a1 := fun x hx => ba (List.all_eq_true.mp h1 x hx)
  refine ⟨fun x hx => of_decide_eq_true (a1 x hx).1, fun x hx => excCB_ok (ba (a1 x hx).2).1, fun x hx => of_decide_eq_true (ba (ba (a1 x hx).2).2).1, fun x hx y hy => of_decide_eq_true (List.all_eq_true.mp (ba (ba (a1 x hx).2).2).2 y hy),
    fun x hx => exc_ok (List.all_eq_true.mp h2 x hx), fun x hx => ?_, oexB_ok h4, eqO_ok h5, eqO_ok h6, eqO_ok h7, xfB_ok h8, of_decide_eq_true h9, of_decide_eq_true h10, eqO_ok h11, h12, ?_⟩
  · obtain ⟨b1, b⟩ := ba (List.all_eq_true.mp h3 x hx)
    obtain ⟨b2, b⟩ := ba b
    obtain ⟨b3, b4⟩ := ba b
    exact ⟨oexB_ok b1, eqO_ok b2, eqO_ok b3, xfB_ok b4⟩
  · generalize PySem.W.findCls K (.ref (ga K "MillError")) (.type "type") "__init__" = r at h13
    split at h13
    · rw [of_decide_eq_true h13]
    · cases h13
end Bm


set_option Elab.async false
set_option linter.all false
set_option maxRecDepth 100000
set_option maxHeartbeats 4000000
namespace Bm
open PySem PySem.Spec PyProof.Rows L2 He
/-! ### the errors' classes, where not all of them stand -/
def xmB (K : PySem.W.Frag) (x : Str) : Bool := decide (PySem.W.exmOne K (.ref (ga K x)) (.ref (ga K x)) = some true)
def xnB (K : PySem.W.Frag) : Bool := decide (PySem.W.typeIn K (.ref (ma K (ga K "Numbered") "__init__")) = some (.type "function")) && (eqO (PySem.W.specialIn K (.ref (ga K "MillError")) "__getattribute__") (some (some (.builtin "type.__getattribute__"))) && (PySem.W.readsIn K (ga K "MillError") (.type "type") &&
  (match PySem.W.findCls K (.ref (ga K "MillError")) (.type "type") "__init__" with
    | some (.val (.builtin n)) => decide (n = "ValueError.__init__")
    | _ => false)))
def xB2 (ps ns : List Str) (K : PySem.W.Frag) : Bool := (ps.all fun x => (Fa.exc x).ok K && xmB K x) &&
  ((ns.all fun x => oexB K (ga K x) && (eqO (PySem.W.findIn K (.ref (ga K x)) "__init__") (some (some (.ref (ma K (ga K "Numbered") "__init__")))) && (eqO (PySem.W.findIn K (.ref (ga K x)) "number") (some none) && xfB K (ga K x)))) && (ns.isEmpty || xnB K))
structure XF2 (ps ns : List Str) (K : PySem.W.Frag) : Prop where
  plain : ∀ x ∈ ps, PySem.W.excIn K (ga K x) veBase "ValueError.__new__" = true ∧ PySem.W.keepIn K (.ref (ga K x)) = true ∧ PySem.W.subIn K (.ref (ga K x)) (.type "BaseException") = some true ∧ PySem.W.typeIn K (.ref (ga K x)) = some (.type "type")
  self : ∀ x ∈ ps, PySem.W.exmOne K (.ref (ga K x)) (.ref (ga K x)) = some true
  num : ∀ x ∈ ns, OexC K (ga K x) ∧ PySem.W.findIn K (.ref (ga K x)) "__init__" = some (some (.ref (ma K (ga K "Numbered") "__init__"))) ∧ PySem.W.findIn K (.ref (ga K x)) "number" = some none ∧ XfC K (ga K x)
  more : ns ≠ [] → PySem.W.typeIn K (.ref (ma K (ga K "Numbered") "__init__")) = some (.type "function") ∧ PySem.W.specialIn K (.ref (ga K "MillError")) "__getattribute__" = some (some (.builtin "type.__getattribute__")) ∧ PySem.W.readsIn K (ga K "MillError") (.type "type") = true ∧
    PySem.W.findCls K (.ref (ga K "MillError")) (.type "type") "__init__" = some (.val (.builtin "ValueError.__init__"))
theorem xB2_ok {ps ns : List Str} {K : PySem.W.Frag} (h : xB2 ps ns K = true) : XF2 ps ns K := by
  obtain ⟨h1, h⟩ := ba h
  obtain ⟨h2, h3⟩ := ba h
  refine ⟨fun x hx => exc_ok (ba (List.all_eq_true.mp h1 x hx)).1, fun x hx => of_decide_eq_true (ba (List.all_eq_true.mp h1 x hx)).2, fun x hx => ?_, fun hn => ?_⟩
  · obtain ⟨b1, b⟩ := ba (List.all_eq_true.mp h2 x hx)
    obtain ⟨b2, b⟩ := ba b
    obtain ⟨b3, b4⟩ := ba b
    exact ⟨oexB_ok b1, eqO_ok b2, eqO_ok b3, xfB_ok b4⟩
  · rcases Bool.or_eq_true_iff.mp h3 with z | z
    · exact absurd (List.isEmpty_iff.mp z) hn
    · obtain ⟨c1, z⟩ := ba z
      obtain ⟨c2, z⟩ := ba z
      obtain ⟨c3, c4⟩ := ba z
      refine ⟨of_decide_eq_true c1, eqO_ok c2, c3, ?_⟩
      generalize PySem.W.findCls K (.ref (ga K "MillError")) (.type "type") "__init__" = r at c4
      split at c4
      · rw [of_decide_eq_true c4]
      · cases c4
/-- a tuple of the module, without a dict of its own -/
def tdB (K : PySem.W.Frag) (x : Str) : Bool := match K.lookup (ga K x) with
  | some o => decide (o.cls = .type "tuple") && decide (o.dict = none)
  | none => false
theorem tdB_ok {K : PySem.W.Frag} {x : Str} (h : tdB K x = true) : ∃ o, K.lookup (ga K x) = some o ∧ o.cls = .type "tuple" ∧ o.dict = none := by
  unfold tdB at h
  split at h
  · rename_i o ho
    obtain ⟨h1, h2⟩ := ba h
    exact ⟨o, ho, of_decide_eq_true h1, of_decide_eq_true h2⟩
  · cases h
end Bm


set_option Elab.async false
set_option linter.all false
set_option maxRecDepth 100000
set_option maxHeartbeats 4000000
namespace Bm
open PySem PySem.Spec PyProof.Rows L2 He
/-! ### the hook, the places of the fragment written down -/
def obsL (as : List Addr) (fa : List Fa) (fn : List DefD) (ts : List Tab) (tf : List Defn) (ex : PySem.W.Frag → Bool) (g : Addr → Option Obj) : AlX := (obsT fa fn ts (frT g as), ex (frT g as) && tabsB g tf (frT g as))
theorem saysL_of {as : List Addr} {fa : List Fa} {fn : List DefD} {ts : List Tab} {tf : List Defn} {ex : PySem.W.Frag → Bool} {w : World} {h : Heap} (e : obsL as fa fn ts tf ex h.get? = valX fn ts w) : SaysX fa fn ts tf ex w h (frT h.get? as) := by
  have e1 : obsT fa fn ts (frT h.get? as) = valT fn ts w := congrArg (fun z : AlX => z.1) e
  have e2 : (ex (frT h.get? as) && tabsB h.get? tf (frT h.get? as)) = true := congrArg (fun z : AlX => z.2) e
  obtain ⟨h1, h2⟩ := ba e2
  have key : ∀ p ∈ tf, PySem.W.codeHdIn (frT h.get? as) (cT (frT h.get? as) p).1 (cT (frT h.get? as) p).2 = true ∧ ∃ o, h.get? (cT (frT h.get? as) p).2 = some o ∧ emptyTab o = true := fun p hp => by
    obtain ⟨h3, h4⟩ := ba (List.all_eq_true.mp h2 p hp)
    refine ⟨h3, ?_⟩
    cases q : h.get? (cT (frT h.get? as) p).2 with
    | none =>
      rw [q] at h4
      cases h4
    | some o =>
      rw [q] at h4
      exact ⟨o, rfl, h4⟩
  exact ⟨e1, h1, fun p hp => (key p hp).1, fun p hp => by
    obtain ⟨_, o, q, z⟩ := key p hp
    exact frT_none q z, fun p hp => by
    obtain ⟨_, o, q, z⟩ := key p hp
    rw [q, emptyTab_eq z]⟩
def hookL (as : List Addr) (fa : List Fa) (fn : List DefD) (ts : List Tab) (tf : List Defn) (ex : PySem.W.Frag → Bool) : PySem.W.Hook where
  α := AlX
  obs := fun s => obsL as fa fn ts tf ex s.heap.get?
  val := fun w => valX fn ts w
  says := fun w h => ∃ K : PySem.W.Frag, K.In h ∧ SaysX fa fn ts tf ex w h K
  of := fun _ _ e => ⟨_, frT_in, saysL_of e⟩
  keeps := fun _ _ _ ⟨K, hK, c⟩ k => ⟨K, PySem.W.Frag.In.keeps hK k, ⟨c.t, c.more, c.hd, c.out, fun p hp => k _ _ (c.empty p hp)⟩⟩
theorem obsL_eq {as : List Addr} {fa : List Fa} {fn : List DefD} {ts : List Tab} {tf : List Defn} {ex : PySem.W.Frag → Bool} {g : Addr → Option Obj} {s : Shared} (h : ∀ a, g a = s.heap.get? a) : obsL as fa fn ts tf ex g = (hookL as fa fn ts tf ex).obs s := by
  have e : g = s.heap.get? := funext h
  rw [e] <;> rfl
theorem join3 {α β γ δ ε : Type} {o : Option α} {f : α → β} {g : α → γ} {k : α → δ × ε} {b : β} {c : γ} {z : δ × ε} (h1 : o.map (fun s => (f s, g s)) = some (b, c)) (h2 : o.map (fun s => (k s).1) = some z.1) (h3 : o.map (fun s => (k s).2) = some z.2) : o.map (fun s => (f s, g s, k s)) = some (b, c, z) := by
  cases o with
  | none => cases h1
  | some s =>
    simp only [Option.map_some, Option.some.injEq, Prod.mk.injEq] at h1 h2 h3 ⊢
    exact ⟨h1.1, h1.2, Prod.ext h2 h3⟩
end Bm


set_option Elab.async false
set_option linter.all false
set_option maxRecDepth 100000
set_option maxHeartbeats 0
namespace Lk04
open PySem PySem.Spec PyProof.Rows L2
def top (i : Nat) : Stmt := PySem.Challenge.pw_bitmill_k04_whole_words_and_deeds_go_ove.main.body.getD i (.Pass ⟨0, 0, 0, 0⟩)
abbrev s_is_whole : Stmt := top 2
abbrev s_field : Stmt := top 3
abbrev s_signed : Stmt := top 4
abbrev s_Numbered_init : Stmt := inClass (top 12) 0
abbrev s_BadRow_init : Stmt := inClass (top 16) 0
abbrev s_Part_init : Stmt := inClass (top 25) 0
abbrev s_Part_holds : Stmt := inClass (top 25) 1
abbrev s_Part_bits : Stmt := inClass (top 25) 2
abbrev s_Part_taken : Stmt := inClass (top 25) 3
abbrev s_Form_init : Stmt := inClass (top 26) 0
abbrev s_Form_need_parts : Stmt := inClass (top 26) 1
abbrev s_Form_need : Stmt := inClass (top 26) 2
abbrev s_Form_one_word : Stmt := inClass (top 26) 3
abbrev s_Form_numbers : Stmt := inClass (top 26) 4
abbrev s_Form_words : Stmt := inClass (top 26) 5
abbrev s_Form_read : Stmt := inClass (top 26) 6
abbrev s_Form_size : Stmt := inClass (top 26) 7
abbrev s_Near_need : Stmt := inClass (top 27) 0
abbrev s_Near_words : Stmt := inClass (top 27) 1
abbrev s_Near_read : Stmt := inClass (top 27) 2
abbrev s_Far_need : Stmt := inClass (top 28) 0
abbrev s_Far_words : Stmt := inClass (top 28) 1
abbrev s_Far_read : Stmt := inClass (top 28) 2
abbrev s_Far_size : Stmt := inClass (top 28) 3
abbrev s_Book_init : Stmt := inClass (top 29) 0
abbrev s_Book_packed : Stmt := inClass (top 29) 1
abbrev s_Book_need : Stmt := inClass (top 29) 2
abbrev s_Book_unpacked : Stmt := inClass (top 29) 3
abbrev s_numbers_of : Stmt := top 30
abbrev s_deed_of : Stmt := top 31
abbrev s_packed : Stmt := top 32
abbrev s_need_words : Stmt := top 33
abbrev s_unpacked : Stmt := top 34
abbrev s_law_start : Stmt := top 36
abbrev s_law_drawn : Stmt := top 37
abbrev s_law_same : Stmt := top 38
abbrev s_law_kind : Stmt := top 39
abbrev s_law_plain : Stmt := top 40
abbrev s_law_pairs : Stmt := top 41
abbrev s_law_times : Stmt := top 42
abbrev s_law_number : Stmt := top 43
abbrev s_law_deed : Stmt := top 44
abbrev s_law : Stmt := top 45
def d_is_whole : He.DefD := ⟨("is_whole", none), "is_whole", "is_whole", defArgs s_is_whole, defBody s_is_whole, defScope s_is_whole, [.int (0), .int (65535)], []⟩
def d_field : He.DefD := ⟨("field", none), "field", "field", defArgs s_field, defBody s_field, defScope s_field, [], []⟩
def d_signed : He.DefD := ⟨("signed", none), "signed", "signed", defArgs s_signed, defBody s_signed, defScope s_signed, [], []⟩
def d_Numbered_init : He.DefD := ⟨("Numbered", some "__init__"), "__init__", "Numbered.__init__", defArgs s_Numbered_init, defBody s_Numbered_init, defScope s_Numbered_init, [], []⟩
def d_BadRow_init : He.DefD := ⟨("BadRow", some "__init__"), "__init__", "BadRow.__init__", defArgs s_BadRow_init, defBody s_BadRow_init, defScope s_BadRow_init, [], []⟩
def d_Part_init : He.DefD := ⟨("Part", some "__init__"), "__init__", "Part.__init__", defArgs s_Part_init, defBody s_Part_init, defScope s_Part_init, [.bl false], []⟩
def d_Part_holds : He.DefD := ⟨("Part", some "holds"), "holds", "Part.holds", defArgs s_Part_holds, defBody s_Part_holds, defScope s_Part_holds, [], []⟩
def d_Part_bits : He.DefD := ⟨("Part", some "bits"), "bits", "Part.bits", defArgs s_Part_bits, defBody s_Part_bits, defScope s_Part_bits, [], []⟩
def d_Part_taken : He.DefD := ⟨("Part", some "taken"), "taken", "Part.taken", defArgs s_Part_taken, defBody s_Part_taken, defScope s_Part_taken, [], []⟩
def d_Form_init : He.DefD := ⟨("Form", some "__init__"), "__init__", "Form.__init__", defArgs s_Form_init, defBody s_Form_init, defScope s_Form_init, [], []⟩
def d_Form_need_parts : He.DefD := ⟨("Form", some "need_parts"), "need_parts", "Form.need_parts", defArgs s_Form_need_parts, defBody s_Form_need_parts, defScope s_Form_need_parts, [], []⟩
def d_Form_need : He.DefD := ⟨("Form", some "need"), "need", "Form.need", defArgs s_Form_need, defBody s_Form_need, defScope s_Form_need, [], []⟩
def d_Form_one_word : He.DefD := ⟨("Form", some "one_word"), "one_word", "Form.one_word", defArgs s_Form_one_word, defBody s_Form_one_word, defScope s_Form_one_word, [], []⟩
def d_Form_numbers : He.DefD := ⟨("Form", some "numbers"), "numbers", "Form.numbers", defArgs s_Form_numbers, defBody s_Form_numbers, defScope s_Form_numbers, [], []⟩
def d_Form_words : He.DefD := ⟨("Form", some "words"), "words", "Form.words", defArgs s_Form_words, defBody s_Form_words, defScope s_Form_words, [], []⟩
def d_Form_read : He.DefD := ⟨("Form", some "read"), "read", "Form.read", defArgs s_Form_read, defBody s_Form_read, defScope s_Form_read, [], []⟩
def d_Form_size : He.DefD := ⟨("Form", some "size"), "size", "Form.size", defArgs s_Form_size, defBody s_Form_size, defScope s_Form_size, [], []⟩
def d_Near_need : He.DefD := ⟨("Near", some "need"), "need", "Near.need", defArgs s_Near_need, defBody s_Near_need, defScope s_Near_need, [], []⟩
def d_Near_words : He.DefD := ⟨("Near", some "words"), "words", "Near.words", defArgs s_Near_words, defBody s_Near_words, defScope s_Near_words, [], []⟩
def d_Near_read : He.DefD := ⟨("Near", some "read"), "read", "Near.read", defArgs s_Near_read, defBody s_Near_read, defScope s_Near_read, [], []⟩
def d_Far_need : He.DefD := ⟨("Far", some "need"), "need", "Far.need", defArgs s_Far_need, defBody s_Far_need, defScope s_Far_need, [], []⟩
def d_Far_words : He.DefD := ⟨("Far", some "words"), "words", "Far.words", defArgs s_Far_words, defBody s_Far_words, defScope s_Far_words, [], []⟩
def d_Far_read : He.DefD := ⟨("Far", some "read"), "read", "Far.read", defArgs s_Far_read, defBody s_Far_read, defScope s_Far_read, [], []⟩
def d_Far_size : He.DefD := ⟨("Far", some "size"), "size", "Far.size", defArgs s_Far_size, defBody s_Far_size, defScope s_Far_size, [], []⟩
def d_Book_init : He.DefD := ⟨("Book", some "__init__"), "__init__", "Book.__init__", defArgs s_Book_init, defBody s_Book_init, defScope s_Book_init, [], []⟩
def d_Book_packed : He.DefD := ⟨("Book", some "packed"), "packed", "Book.packed", defArgs s_Book_packed, defBody s_Book_packed, defScope s_Book_packed, [], []⟩
def d_Book_need : He.DefD := ⟨("Book", some "need"), "need", "Book.need", defArgs s_Book_need, defBody s_Book_need, defScope s_Book_need, [], []⟩
def d_Book_unpacked : He.DefD := ⟨("Book", some "unpacked"), "unpacked", "Book.unpacked", defArgs s_Book_unpacked, defBody s_Book_unpacked, defScope s_Book_unpacked, [], []⟩
def d_numbers_of : He.DefD := ⟨("numbers_of", none), "numbers_of", "numbers_of", defArgs s_numbers_of, defBody s_numbers_of, defScope s_numbers_of, [], []⟩
def d_deed_of : He.DefD := ⟨("deed_of", none), "deed_of", "deed_of", defArgs s_deed_of, defBody s_deed_of, defScope s_deed_of, [], []⟩
def d_packed : He.DefD := ⟨("packed", none), "packed", "packed", defArgs s_packed, defBody s_packed, defScope s_packed, [.int (0)], []⟩
def d_need_words : He.DefD := ⟨("need_words", none), "need_words", "need_words", defArgs s_need_words, defBody s_need_words, defScope s_need_words, [], []⟩
def d_unpacked : He.DefD := ⟨("unpacked", none), "unpacked", "unpacked", defArgs s_unpacked, defBody s_unpacked, defScope s_unpacked, [.int (0)], []⟩
def d_law_start : He.DefD := ⟨("_law_start", none), "_law_start", "_law_start", defArgs s_law_start, defBody s_law_start, defScope s_law_start, [], []⟩
def d_law_drawn : He.DefD := ⟨("_law_drawn", none), "_law_drawn", "_law_drawn", defArgs s_law_drawn, defBody s_law_drawn, defScope s_law_drawn, [], []⟩
def d_law_same : He.DefD := ⟨("_law_same", none), "_law_same", "_law_same", defArgs s_law_same, defBody s_law_same, defScope s_law_same, [], []⟩
def d_law_kind : He.DefD := ⟨("_law_kind", none), "_law_kind", "_law_kind", defArgs s_law_kind, defBody s_law_kind, defScope s_law_kind, [], []⟩
def d_law_plain : He.DefD := ⟨("_law_plain", none), "_law_plain", "_law_plain", defArgs s_law_plain, defBody s_law_plain, defScope s_law_plain, [], []⟩
def d_law_pairs : He.DefD := ⟨("_law_pairs", none), "_law_pairs", "_law_pairs", defArgs s_law_pairs, defBody s_law_pairs, defScope s_law_pairs, [], []⟩
def d_law_times : He.DefD := ⟨("_law_times", none), "_law_times", "_law_times", defArgs s_law_times, defBody s_law_times, defScope s_law_times, [], []⟩
def d_law_number : He.DefD := ⟨("_law_number", none), "_law_number", "_law_number", defArgs s_law_number, defBody s_law_number, defScope s_law_number, [], []⟩
def d_law_deed : He.DefD := ⟨("_law_deed", none), "_law_deed", "_law_deed", defArgs s_law_deed, defBody s_law_deed, defScope s_law_deed, [], []⟩
def d_law : He.DefD := ⟨("law", none), "law", "law", defArgs s_law, defBody s_law, defScope s_law, [], []⟩
def d_Near_init : He.DefD := ⟨("Near", some "__init__"), "__init__", "Form.__init__", defArgs s_Form_init, defBody s_Form_init, defScope s_Form_init, [], []⟩
def d_Near_need_parts : He.DefD := ⟨("Near", some "need_parts"), "need_parts", "Form.need_parts", defArgs s_Form_need_parts, defBody s_Form_need_parts, defScope s_Form_need_parts, [], []⟩
def d_Near_one_word : He.DefD := ⟨("Near", some "one_word"), "one_word", "Form.one_word", defArgs s_Form_one_word, defBody s_Form_one_word, defScope s_Form_one_word, [], []⟩
def d_Near_numbers : He.DefD := ⟨("Near", some "numbers"), "numbers", "Form.numbers", defArgs s_Form_numbers, defBody s_Form_numbers, defScope s_Form_numbers, [], []⟩
def d_Near_size : He.DefD := ⟨("Near", some "size"), "size", "Form.size", defArgs s_Form_size, defBody s_Form_size, defScope s_Form_size, [], []⟩
def d_Far_init : He.DefD := ⟨("Far", some "__init__"), "__init__", "Form.__init__", defArgs s_Form_init, defBody s_Form_init, defScope s_Form_init, [], []⟩
def d_Far_need_parts : He.DefD := ⟨("Far", some "need_parts"), "need_parts", "Form.need_parts", defArgs s_Form_need_parts, defBody s_Form_need_parts, defScope s_Form_need_parts, [], []⟩
def d_Far_one_word : He.DefD := ⟨("Far", some "one_word"), "one_word", "Form.one_word", defArgs s_Form_one_word, defBody s_Form_one_word, defScope s_Form_one_word, [], []⟩
def d_Far_numbers : He.DefD := ⟨("Far", some "numbers"), "numbers", "Form.numbers", defArgs s_Form_numbers, defBody s_Form_numbers, defScope s_Form_numbers, [], []⟩
def fn : List He.DefD := [d_is_whole, d_field, d_signed, d_Numbered_init, d_BadRow_init, d_Part_init, d_Part_holds, d_Part_bits, d_Part_taken, d_Form_init, d_Form_need_parts, d_Form_need, d_Form_one_word, d_Form_numbers, d_Form_words, d_Form_read, d_Form_size, d_Near_need, d_Near_words, d_Near_read, d_Far_need, d_Far_words, d_Far_read, d_Far_size, d_Book_init, d_Book_packed, d_Book_need, d_Book_unpacked, d_numbers_of, d_deed_of, d_packed, d_need_words, d_unpacked, d_law_start, d_law_drawn, d_law_same, d_law_kind, d_law_plain, d_law_pairs, d_law_times, d_law_number, d_law_deed, d_law, d_Near_init, d_Near_need_parts, d_Near_one_word, d_Near_numbers, d_Near_size, d_Far_init, d_Far_need_parts, d_Far_one_word, d_Far_numbers]
def fa : List He.Fa := [.glo "is_whole", .glo "field", .glo "signed", .glo "numbers_of", .glo "deed_of", .glo "packed", .glo "need_words", .glo "unpacked", .glo "_law_start", .glo "_law_drawn", .glo "_law_same", .glo "_law_kind", .glo "_law_plain", .glo "_law_pairs", .glo "_law_times", .glo "_law_number", .glo "_law_deed", .glo "law", .glo "MillError", .glo "BadDeed", .glo "BadReach", .glo "NoDeed", .glo "BadCount", .glo "NoMend", .glo "Numbered", .glo "BadImage", .glo "BadGiven", .glo "BadList", .glo "BadRow", .glo "Part", .glo "Form", .glo "Near", .glo "Far", .glo "Book", .free "ValueError", .free "all", .free "bool", .free "enumerate", .free "int", .free "isinstance", .free "len", .free "list", .free "max", .free "min", .free "range", .free "str", .free "tuple", .free "zip", .int "LAST" 65535, .int "BARE" 3, .int "MOST_WORDS" 200, .cls "Part", .mkr "Part", .meth "Part" "holds", .meth "Part" "bits", .meth "Part" "taken", .noat "Part" "at", .noat "Part" "many", .noat "Part" "signs", .cls "Form", .mkr "Form", .meth "Form" "need_parts", .meth "Form" "need", .meth "Form" "one_word", .meth "Form" "numbers", .meth "Form" "words", .meth "Form" "read", .meth "Form" "size", .noat "Form" "op", .noat "Form" "parts", .cls "Near", .mkr "Near", .meth "Near" "need", .meth "Near" "words", .meth "Near" "read", .meth "Near" "need_parts", .meth "Near" "one_word", .meth "Near" "numbers", .meth "Near" "size", .noat "Near" "op", .noat "Near" "parts", .cls "Far", .mkr "Far", .meth "Far" "need", .meth "Far" "words", .meth "Far" "read", .meth "Far" "size", .meth "Far" "need_parts", .meth "Far" "one_word", .meth "Far" "numbers", .noat "Far" "op", .noat "Far" "parts", .cls "Book", .mkr "Book", .meth "Book" "packed", .meth "Book" "need", .meth "Book" "unpacked", .noat "Book" "forms", .glo "PLAIN", .glo "PAIRS", .glo "WHENS", .glo "NUMBERED", .glo "NAMES"]
def tups (K : PySem.W.Frag) : Bool := He.tupB K "PLAIN" [.str "halt", .str "rest", .str "back", .str "say", .str "ask", .str "push", .str "pop"] && (Bm.tdB K "PLAIN" && (He.tupB K "PAIRS" [.str "add", .str "less", .str "and", .str "or", .str "xor", .str "left", .str "right", .str "turn"] && (Bm.tdB K "PAIRS" && (He.tupB K "WHENS" [.str "always", .str "zero", .str "some", .str "carry", .str "clear", .str "minus", .str "over"] && (Bm.tdB K "WHENS" && (He.tupB K "NUMBERED" [.str "plus", .str "set", .str "high", .str "load", .str "store"] && (Bm.tdB K "NUMBERED" && (He.tupB K "NAMES" [.str "plain", .str "pair", .str "plus", .str "set", .str "high", .str "load", .str "store", .str "jump", .str "far jump", .str "call", .str "far call"] && (Bm.tdB K "NAMES")))))))))
def xAll (K : PySem.W.Frag) : Bool := (Bm.xB2 ["BadDeed", "BadReach", "NoDeed", "BadCount", "NoMend"] ["BadImage", "BadGiven", "BadList"] K && (Bm.xB K && tups K))
abbrev R : PySem.W.OpenRow := PySem.W.OpenLaw.row PySem.Challenge.rw_bitmill_k04_whole_words_and_deeds_go_ove
def tf : List He.Defn := [("law", none)]
def as0 : List Addr := ([3, 6, 4, 22, 29, 36, 46, 59, 71, 83, 95, 107, 126, 138, 150, 162, 181, 184, 185, 186, 187, 188, 227, 293, 328, 368, 408, 419, 426, 434] : List Addr) ++ ([441, 449, 456, 463, 468, 475, 482, 489, 496, 503, 510, 517, 0, 21, 15, 28, 35, 45, 58, 70, 82, 94, 106, 125, 137, 149, 161, 180, 226, 292] : List Addr) ++ ([327, 367, 407, 418, 425, 433, 427, 440, 448, 442, 455, 462, 467, 474, 481, 488, 495, 502, 509, 516, 16, 17, 18, 19, 20, 23, 24, 25, 26, 27] : List Addr) ++ ([30, 31, 32, 33, 34, 44, 47, 57, 69, 81, 93, 105, 123, 124, 136, 148, 160, 178, 179, 203, 210, 217, 224, 225, 228, 229, 245, 250, 257, 264] : List Addr) ++ ([269, 276, 283, 290, 291, 294, 295, 311, 318, 325, 326, 344, 351, 358, 365, 366, 384, 391, 398, 405, 406, 409, 410, 413, 414, 415, 416, 417, 420, 421] : List Addr) ++ ([422, 423, 424, 428, 429, 430, 431, 432, 435, 436, 437, 438, 439, 443, 444, 445, 446, 447, 450, 451, 452, 453, 454, 457, 458, 459, 460, 461, 464, 465] : List Addr) ++ ([466, 469, 470, 471, 472, 473, 476, 477, 478, 479, 480, 483, 484, 485, 486, 487, 490, 491, 492, 493, 494, 497, 498, 499, 500, 501, 504, 505, 506, 507] : List Addr) ++ ([508, 511, 512, 513, 514, 515, 122, 177, 202, 196, 209, 216, 223, 244, 249, 256, 263, 268, 275, 282, 289, 310, 317, 324, 343, 350, 357, 364, 383, 390] : List Addr) ++ ([397, 404, 117, 118, 119, 120, 121, 172, 173, 174, 175, 176, 197, 198, 199, 200, 201, 204, 205, 206, 207, 208, 211, 212, 213, 214, 215, 218, 219, 220] : List Addr) ++ ([221, 222, 239, 240, 241, 242, 243, 246, 247, 248, 251, 252, 253, 254, 255, 258, 259, 260, 261, 262, 265, 266, 267, 270, 271, 272, 273, 274, 277, 278] : List Addr) ++ ([279, 280, 281, 284, 285, 286, 287, 288, 305, 306, 307, 308, 309, 312, 313, 314, 315, 316, 319, 320, 321, 322, 323, 338, 339, 340, 341, 342, 345, 346] : List Addr) ++ ([347, 348, 349, 352, 353, 354, 355, 356, 359, 360, 361, 362, 363, 378, 379, 380, 381, 382, 385, 386, 387, 388, 389, 392, 393, 394, 395, 396, 399, 400] : List Addr) ++ ([401, 402, 403, 2] : List Addr)
abbrev hk : PySem.W.Hook := Bm.hookL as0 fa fn [] tf xAll
def ob (s : PySem.W.SharedT) : He.AlX := Bm.obsL as0 fa fn [] tf xAll (HandSHeadRun.getT s)
theorem ob_eq (s : PySem.W.SharedT) : ob s = hk.obs s.abs := Bm.obsL_eq (HandSHeadRun.getT_eq s)
def names : List Str := (["BARE", "BadCount", "BadDeed", "BadGiven", "BadImage", "BadList", "BadReach", "BadRow", "Book", "Far", "Form", "LAST"] : List Str) ++ (["MOST_WORDS", "MillError", "NAMES", "NUMBERED", "Near", "NoDeed", "NoMend", "Numbered", "PAIRS", "PLAIN", "Part", "WHENS"] : List Str) ++ (["_law_deed", "_law_drawn", "_law_kind", "_law_number", "_law_pairs", "_law_plain", "_law_same", "_law_start", "_law_times", "deed_of", "field", "is_whole"] : List Str) ++ (["need_words", "numbers_of", "packed", "signed", "unpacked"] : List Str)
theorem runF (w : World) : HandSHeadRun.RunEq R (PySem.W.view R.prog [45]) hk ob 9000 names (w.withFollow "special-get-raises" false) := by
  intro os
  kernel_rfl
theorem runT (w : World) : HandSHeadRun.RunEq R (PySem.W.view R.prog [45]) hk ob 9000 names (w.withFollow "special-get-raises" true) := by
  intro os
  kernel_rfl
theorem run (w : World) : HandSHeadRun.RunEq R (PySem.W.view R.prog [45]) hk ob 9000 names w :=
  PySem.W.byRow2 "special-get-raises" (P := fun w => HandSHeadRun.RunEq R (PySem.W.view R.prog [45]) hk ob 9000 names w) runF runT w
end Lk04


set_option Elab.async false
set_option linter.all false
set_option maxRecDepth 100000
set_option maxHeartbeats 4000000
namespace PySem
open PyProof.Rows
section
variable {prog : Program} {w : World} {A : Around} {E : Value → Shared → Prop} {s : Shared}
set_option maxHeartbeats 1000000 in
theorem bm_enum_new1 {v : Value} {o : Obj} {H : Heap → Prop} (B : Begins v o H) :
    Meets (Builtin.«enumerate.__new__» ⟨[.type "enumerate", v], []⟩) (fun _ R s => H s.heap ∧
      R (.ok (.ret (.ref (s.heap.push o).objs.size))) { s with heap := (s.heap.push o).push { cls := .type "enumerate", data := .fields #[.none, .bool false, .ref s.heap.objs.size, rawInt 0, .none, .none] } }) :=
  .of_wp fun prog w A R s h => by
    obtain ⟨hp, g, d, tk, os⟩ := s; obtain ⟨h1, h⟩ := h
    have hsub := sub_enumerate
    have q1 : ∀ {A' : Around} {E : Value → Shared → Prop} {Q : Value → Shared → Prop}, Q (.ref hp.objs.size) ⟨hp.push o, g, d, tk, os⟩ → wpAny (model prog w) A' (pyIter v) Q E ⟨hp, g, d, tk, os⟩ :=
      fun q => B.iter prog w _ _ ⟨hp, g, d, tk, os⟩ _ h1 q
    wp_walk using q1
    refine wpAny_stack_any fun st => wpAny_pure ?_
    split
    · rename_i c _ _ _ _ _
      cases (c == Value.type "enumerate")
      · wp_walk using q1
        exact ⟨_, rfl, h⟩
      · wp_walk using q1
        exact ⟨_, rfl, h⟩
    · wp_walk using q1
      exact ⟨_, rfl, h⟩
theorem bm_enum_begins {v : Value} {o : Obj} {H : Heap → Prop} {Q : Value → Shared → Prop} (B : Begins v o H) (h1 : H s.heap)
    (h : ∀ h', IsEnum h' (s.heap.objs.size + 1) s.heap.objs.size 0 .none → h'.get? s.heap.objs.size = some o → h'.objs.size = s.heap.objs.size + 2 →
      (∀ b o, s.heap.get? b = some o → h'.get? b = some o) → Q (.ref (s.heap.objs.size + 1)) { s with heap := h' }) :
    wpAny (model prog w) A (call (.type "enumerate") [v]) Q E s := by
  refine callType_new F.called_enumerate (by decide) (F.typeCall_enumerate_1 _) (F.newCall_enumerate_1 _) (fun obj => F.args_object_init_2 obj _) F.entry_enumerate_new
    (bm_enum_new1 B) ⟨h1, ?_⟩
  have hz : (s.heap.push o).objs.size = s.heap.objs.size + 1 := Heap.size_push ..
  show _ ∧ _
  rw [hz]
  have he : IsEnum ((s.heap.push o).push { cls := .type "enumerate", data := .fields #[.none, .bool false, .ref s.heap.objs.size, rawInt 0, .none, .none] }) (s.heap.objs.size + 1) s.heap.objs.size 0 .none := by
    have := Heap.get?_push_size (s.heap.push o) (o := { cls := .type "enumerate", data := .fields #[.none, .bool false, .ref s.heap.objs.size, rawInt 0, .none, .none] }) rfl
    rw [hz] at this; exact this
  refine ⟨⟨_, he, rfl⟩, h _ he (Heap.get?_push_of_some _ (Heap.get?_push_size _ B.free)) (by rw [Heap.size_push, hz]) fun b o x => Heap.get?_push_of_some _ (Heap.get?_push_of_some _ x)⟩
theorem bm_enum_end {e it t : Addr} {n : Nat} {items : Array Value} {i : Int} {old : Value} {Q : Option Value → Shared → Prop} (hh : A.handled = none)
    (he : IsEnum s.heap e it i old) (hit : s.heap.IsTupleIter it t n) (ht : s.heap.IsTuple t items) (hx : items[n]? = none)
    (hQ : ∀ h', Heap.ExtBut it s.heap h' → Q none { s with heap := h' }) : wpAny (model prog w) A (pyNext (.ref e)) Q E s := by
  have hT : s.TypeIs (.ref e) "enumerate" := ⟨_, he, rfl⟩
  unfold pyNext
  refine wpAny_bind (wpAny_attempt (wpAny_callSpecial?_slot (name := Str.ofString "__next__") hT F.slot_enumerate_next
    (wpAny_call_entry F.slot_enumerate_next hT F.entry_enumerate_next ?_ (F.args_enumerate_next_1 _))))
  show wpAny _ _ (field (.ref e) 2 >>= _) _ _ _
  refine wpAny_bind (wpAny_field he rfl (x := .ref it) rfl ?_)
  refine wpAny_bind (wpAny_nextOf_tuple_end (show A.in1.handled = none from hh) hit ht hx fun h' x he' hx' => ?_)
  obtain ⟨o, ho, hc⟩ := hx'
  refine wpAny_bind (wpAny_isInstance (T := "StopIteration") (b := true) ⟨o, ho, hc⟩ isSubtype_stop ?_)
  exact wpAny_pure (hQ _ he')
end
end PySem
namespace Bm
open PySem PySem.Spec PyProof.Rows L2

/-! ### in-place operators -/
theorem pip_of {X : Cx} {op : Operator} {r : R2} (h : OpR X (inplaceOp op) r) : PIp X op r := fun pins s σ H x y v u Q I r1 r2 q => h pins s σ H x y v u Q I r1 r2 q
theorem inop_of {X : Cx} {op : Operator} {r : R2} (h : OpR X (inplaceOp op) r) : InOp X op r := fun pins s σ H x y v u Q I r1 r2 q => h pins s σ H x y v u Q I r1 r2 q

/-! ### a list or a tuple -/
def SqA (K : PySem.W.Frag) (H : Hp) (a : Addr) (xs : List V) : Prop := SqL K H a xs ∨ SqT K H a xs
/-- enumerate of a tuple -/
def IteT (K : PySem.W.Frag) (a : Addr) : It :=
  ⟨fun i H => ∃ (xs : List V) (x : V), SqT K H a xs ∧ xs[i]? = some x, fun i H v H' => ∃ T x, v = .ref T ∧ H T = none ∧ H' = upd H T (.tup [.int (i : Nat), x]) ∧ ∀ xs, SqT K H a xs → xs[i]? = some x, fun i H => ∃ xs : List V, SqT K H a xs ∧ xs.length ≤ i⟩
theorem turn_enumT {P : Program} {w : World} {K : PySem.W.Frag} {elts : List Expr} {kk : Nat} {tpos : Pos} (a e it : Addr) :
    Turn P w K (.Tuple elts kk tpos) (IteT K a) [e, it] e (fun i h => (∃ old, IsEnum h e it ((i : Nat) : Int) old) ∧ h.IsTupleIter it a i ∧ e ≠ it) where
  mem := by simp
  obj := fun i h st b hb => by
    obtain ⟨⟨old, he⟩, ⟨o, ho, hc, hd⟩, _⟩ := st
    have e' : b = e ∨ b = it := by simpa using hb
    rcases e' with z | z
    · rw [z]; exact ⟨_, he, fun v q => nomatch q⟩
    · rw [z]; exact ⟨o, ho, fun v q => by rw [hd] at q; cases q⟩
  keep := fun i h h' st k => let ⟨⟨old, he⟩, hi, hne⟩ := st; ⟨⟨old, k e (by simp) _ he⟩, hi.at fun o q => k it (by simp) o q, hne⟩
  item := by
    intro X hP hw hK hc i pins s σ H E I hf st hg
    subst hP hw hK
    obtain ⟨⟨old, he⟩, hit, hne⟩ := st
    obtain ⟨xs, x, hq, hx⟩ := hg
    obtain ⟨its, rv, p, hz⟩ := I.tuple hq
    obtain ⟨u, hu, ru⟩ := rv.get hx
    have hel : e < s.heap.objs.size := Heap.lt_size he
    have hil : it < s.heap.objs.size := by obtain ⟨_, q, _⟩ := hit; exact Heap.lt_size q
    have hT : s.heap.IsTuple a its.toArray := p
    have hai : a ≠ it := fun z => by
      obtain ⟨o1, q1, c1, d1⟩ := hit
      obtain ⟨o2, q2, c2, _⟩ := hT
      rw [z, q1] at q2
      cases q2
      rw [c1] at c2
      exact absurd (Value.type.inj c2) (by decide)
    have hae : e ≠ a := fun z => by
      obtain ⟨o2, q2, c2, _⟩ := hT
      have he' : s.heap.get? e = some _ := he
      rw [z, q2] at he'
      cases he'
      exact absurd (Value.type.inj c2) (by decide)
    have hin : i < its.toArray.size := by
      have z := (List.getElem?_eq_some_iff.mp hu).1
      simpa using z
    refine wpAny_pyNext_enum_itemD (Draws.tuple (prog := X.prog) (w := X.w) (A := X.A.in1) (show X.A.in1.handled = none from I.ok.hd hc) it a hai its.toArray) he ⟨hit, hT⟩ hin hne (by simp [hne, hae]) fun x' h' tk hx' ho hst hT' hsz hk => ?_
    have ex : x' = u := by
      have z : its.toArray[i]? = some u := by simpa using hu
      exact Option.some.inj (hx'.symm.trans z)
    subst ex
    refine ⟨_, rfl, wpAny_letOwnedTupleGo_enum (s := { s with heap := h', toks := tk + 1 }) ho fun h'' he' sb => ?_⟩
    have hT2 : h''.get? s.heap.objs.size = some { cls := .type "tuple", data := .seq #[.int i tk, x'] } := (sb.2 _ (Nat.ne_of_gt hel)).trans hT'
    have new : ObjOk X.prog X.w (upd H s.heap.objs.size (.tup [.int (i : Nat), x])) h'' s.heap.objs.size (.tup [.int (i : Nat), x]) :=
      ⟨by show 2 ≤ sizeLine; decide, [.int i tk, x'], .cons ⟨_, rfl⟩ (.cons ru .nil), ⟨_, hT2, rfl, _, rfl⟩⟩
    have I1 : Inv X pins σ (upd H s.heap.objs.size (.tup [.int (i : Nat), x])) { s with heap := h'', toks := tk + 1 } :=
      I.turnedNew (ch := [e, it]) (fun b ob hb q => (sb.2 b (fun z => hb (by simp [z]))).trans (hk b ob (fun z => hb (by simp [z])) (fun z => hb (by simp [z])) q)) hf (Nat.le_refl _) new
    refine ⟨.ref s.heap.objs.size, _, I1, rfl, ⟨_, x, rfl, I.hok.fresh (Nat.le_refl _), rfl, fun ys hy => by rw [I.tuple_inj hy hq]; exact hx⟩, ⟨⟨x', ?_⟩, hst.1.at fun o q => (sb.2 it (Ne.symm hne)).trans q, hne⟩, fun b hb => ?_⟩
    · have e1 : ((i + 1 : Nat) : Int) = (i : Int) + 1 := by omega
      rw [e1]; exact he'
    · have hb' : b < s.heap.objs.size := by
        have e' : b = e ∨ b = it := by simpa using hb
        rcases e' with z | z
        · rw [z]; exact hel
        · rw [z]; exact hil
      rw [upd_ne (Nat.ne_of_lt hb')]
      exact (hf b hb).1
  done := by
    intro X hP hw hK hc i pins s σ H E I hf st hg
    subst hP hw hK
    obtain ⟨⟨old, he⟩, hit, hne⟩ := st
    obtain ⟨xs, hq, hx⟩ := hg
    obtain ⟨its, rv, p, hz⟩ := I.tuple hq
    obtain ⟨f0, f1, f2, f3, f4, f5⟩ := hf it (by simp)
    have hl := rv.length
    have hT : s.heap.IsTuple a its.toArray := p
    exact bm_enum_end (I.ok.hd hc) he hit hT (by simp; omega) fun h' eb => ⟨rfl, I.turned (t' := s.toks) (fun b o hb q => eb b o hb q) f0 f1 f3 f4 f5⟩
  self := fun A i s Q E st h => let ⟨⟨_, he⟩, _⟩ := st; wpAny_pyIter_enum he h
/-- for i, x in enumerate(xs), xs a list or a tuple -/
def iEnumA (K : PySem.W.Frag) (ta : TA) : TI := fun σ H R => ta σ H fun vs H1 => ∃ a xs, vs = [.ref a] ∧ ((SqL K H1 a xs ∧ R (Ite K a) H1) ∨ (SqT K H1 a xs ∧ R (IteT K a) H1))
theorem pi_enumA {X : Cx} {e : Expr} {ta : TA} {p pos tpos : Pos} {elts : List Expr} {kk : Nat} (hg : Gl X "enumerate") (hm : X.mg "enumerate" = none) (ha : PA X [e] ta) (hs : starEach [e] X.env = [(false, eval e X.env)] := by rfl) :
    PI X (.Tuple elts kk tpos) (.Call (.Name "enumerate" p) [e] [] pos) (iEnumA X.K ta) := by
  refine ⟨fun pins s σ H R I h => ?_⟩
  refine Call_ (ld_blt I hg hm boot_enumerate (PyProof.Rows.callWith_type1 (thn (ha.run pos pins s σ H _ I h) fun us s1 ⟨vs, H1, I1, r1, q1⟩ => ?_) hs rfl))
  obtain ⟨a, xs, ex, q1⟩ := q1
  subst ex
  cases r1 with
  | cons r rr =>
    cases rr
    cases r
    have fp : ∀ b ∈ [s1.heap.objs.size + 1, s1.heap.objs.size], FpOk X pins H1 b := fun b hb => by
      have e' : b = s1.heap.objs.size + 1 ∨ b = s1.heap.objs.size := by simpa using hb
      have hle : s1.heap.objs.size ≤ b := by
        rcases e' with z | z
        · rw [z]; exact Nat.le_add_right _ _
        · rw [z]; exact Nat.le_refl _
      exact I1.fpOk hle (I1.hok.fresh hle)
    rcases q1 with ⟨hq, q⟩ | ⟨hq, q⟩
    · obtain ⟨its, rv, p', hz⟩ := I1.list hq
      refine call_enumerate_list p'.isList fun h' he hit hsz hk => wpAny_pyIter_enum he ?_
      have I2 : Inv X pins σ H1 { s1 with heap := h' } := I1.kept (t' := s1.toks) hk
      exact ⟨s1.heap.objs.size + 1, [s1.heap.objs.size + 1, s1.heap.objs.size], _, _, H1, rfl, I2, turn_enum a (s1.heap.objs.size + 1) s1.heap.objs.size, ⟨⟨.none, he⟩, hit, Nat.succ_ne_self _⟩, fp, q⟩
    · obtain ⟨its, rv, p', hz⟩ := I1.tuple hq
      refine bm_enum_begins (begins_tuple a its.toArray) (show s1.heap.IsTuple a its.toArray from p') fun h' he hit hsz hk => wpAny_pyIter_enum he ?_
      have I2 : Inv X pins σ H1 { s1 with heap := h' } := I1.kept (t' := s1.toks) hk
      exact ⟨s1.heap.objs.size + 1, [s1.heap.objs.size + 1, s1.heap.objs.size], _, _, H1, rfl, I2, turn_enumT a (s1.heap.objs.size + 1) s1.heap.objs.size, ⟨⟨.none, he⟩, ⟨_, hit, rfl, rfl⟩, Nat.succ_ne_self _⟩, fp, q⟩
/-- for x in xs, xs a list or a tuple -/
def iSeq (K : PySem.W.Frag) (tl : TE) : TI := fun σ H R => tl σ H fun x H1 => ∃ a, x = .ref a ∧ (((∃ xs, SqL K H1 a xs) ∧ R (Itl K a) H1) ∨ ((∃ xs, SqT K H1 a xs) ∧ R (Itt K a) H1))
theorem pi_seq {X : Cx} {tg : Expr} {l : Expr} {tl : TE} (hl : PE X l tl) : PI X tg l (iSeq X.K tl) := by
  refine ⟨fun pins s σ H R I h => ?_⟩
  refine thn (hl.run pins s σ H _ I h) fun v s1 ⟨x, H1, I1, r1, q1⟩ => ?_
  obtain ⟨a, e, q1⟩ := q1
  subst e
  cases r1
  have fp : ∀ b ∈ [s1.heap.objs.size], FpOk X pins H1 b := fun b hb => by
    have e : b = s1.heap.objs.size := by simpa using hb
    subst e
    exact I1.fpOk (Nat.le_refl _) (I1.hok.fresh (Nat.le_refl _))
  rcases q1 with ⟨⟨xs, hq⟩, q⟩ | ⟨⟨xs, hq⟩, q⟩
  · obtain ⟨its, rv, p, hz⟩ := I1.list hq
    refine wpAny_pyIter_list p.isList ?_
    exact ⟨s1.heap.objs.size, [s1.heap.objs.size], _, _, H1, rfl, I1.kept (t' := s1.toks) fun b o e => Heap.get?_push_of_some _ e, turn_list a _, ⟨_, Heap.get?_push_size _ rfl, rfl, rfl⟩, fp, q⟩
  · obtain ⟨its, rv, p, hz⟩ := I1.tuple hq
    refine wpAny_pyIter_tuple (show s1.heap.IsTuple a its.toArray from p) ?_
    exact ⟨s1.heap.objs.size, [s1.heap.objs.size], _, _, H1, rfl, I1.kept (t' := s1.toks) fun b o e => Heap.get?_push_of_some _ e, turn_tuple a _, ⟨_, Heap.get?_push_size _ rfl, rfl, rfl⟩, fp, q⟩
end Bm


set_option Elab.async false
set_option linter.all false
set_option maxRecDepth 100000
set_option maxHeartbeats 4000000
namespace Bm
open PySem PySem.Spec PyProof.Rows L2
/-! ### operators on naturals -/
def rN (g : Nat → Nat → Nat) : R2 := fun x y H Q => ∃ n m : Nat, x = .int (n : Int) ∧ y = .int (m : Int) ∧ Q (.int ((g n m : Nat) : Int)) H
def rNc (C : Nat → Nat → Prop) (g : Nat → Nat → Nat) : R2 := fun x y H Q => ∃ n m : Nat, x = .int (n : Int) ∧ y = .int (m : Int) ∧ C n m ∧ Q (.int ((g n m : Nat) : Int)) H
section
variable {X : Cx}
theorem opN_of {f : Value → Value → Sem Value} {g : Int → Int → Int} {h : Nat → Nat → Nat} (o : OpR X f (rI0 fun i j => .int (g i j))) (e : ∀ n m : Nat, g n m = ((h n m : Nat) : Int)) : OpR X f (rN h) := by
  intro pins s σ H x y v u Q I r1 r2 q
  obtain ⟨n, m, rfl, rfl, q⟩ := q
  refine o pins s σ H _ _ v u Q I r1 r2 ⟨n, m, rfl, rfl, ?_⟩
  show Q (.int (g n m)) H
  rw [e]
  exact q
theorem opNc_of {f : Value → Value → Sem Value} {C : Int → Int → Prop} {C' : Nat → Nat → Prop} {g : Int → Int → Int} {h : Nat → Nat → Nat} (o : OpR X f (rI C fun i j => .int (g i j))) (hc : ∀ n m : Nat, C' n m → C n m) (e : ∀ n m : Nat, C' n m → g n m = ((h n m : Nat) : Int)) : OpR X f (rNc C' h) := by
  intro pins s σ H x y v u Q I r1 r2 q
  obtain ⟨n, m, rfl, rfl, c, q⟩ := q
  refine o pins s σ H _ _ v u Q I r1 r2 ⟨n, m, rfl, rfl, hc n m c, ?_⟩
  show Q (.int (g n m)) H
  rw [e n m c]
  exact q
theorem xor_nn (n m : Nat) : Builtin.bitXor (n : Int) (m : Int) = ((n ^^^ m : Nat) : Int) := by
  rw [Bits.bitXor_pp (by omega) (by omega), Int.toNat_natCast, Int.toNat_natCast]
theorem or_nn (n m : Nat) : Builtin.bitOr (n : Int) (m : Int) = ((n ||| m : Nat) : Int) := by
  rw [Bits.bitOr_pp (by omega) (by omega), Int.toNat_natCast, Int.toNat_natCast]
theorem and_nn (n m : Nat) : Builtin.bitAnd (n : Int) (m : Int) = ((n &&& m : Nat) : Int) := by
  rw [bitAnd_pp (by omega) (by omega), Int.toNat_natCast, Int.toNat_natCast]
theorem shl_nn (n m : Nat) : (n : Int) * 2 ^ (m : Int).toNat = ((n * 2 ^ m : Nat) : Int) := by
  rw [Int.toNat_natCast]
  norm_cast
theorem shr_nn (n m : Nat) : (n : Int) / 2 ^ (m : Int).toNat = ((n / 2 ^ m : Nat) : Int) := by
  rw [Int.toNat_natCast]
  norm_cast
theorem op_xorN : OpR X (binaryOp .BitXor) (rN fun n m => n ^^^ m) := opN_of op_xor xor_nn
theorem op_orN : OpR X (binaryOp .BitOr) (rN fun n m => n ||| m) := opN_of op_or or_nn
theorem op_andN : OpR X (binaryOp .BitAnd) (rN fun n m => n &&& m) := opN_of op_and and_nn
theorem iop_xorN : OpR X (inplaceOp .BitXor) (rN fun n m => n ^^^ m) := opN_of iop_xor xor_nn
theorem iop_orN : OpR X (inplaceOp .BitOr) (rN fun n m => n ||| m) := opN_of iop_or or_nn
theorem iop_andN : OpR X (inplaceOp .BitAnd) (rN fun n m => n &&& m) := opN_of iop_and and_nn
def CShN (n m : Nat) : Prop := n < 2 ^ 64 ∧ m ≤ 1000000
theorem op_shlNN : OpR X (binaryOp .LShift) (rNc CShN fun n m => n * 2 ^ m) := opNc_of op_shl (fun n m c => ⟨by omega, by have := c.2; omega, by have := c.1; omega⟩) (fun n m _ => shl_nn n m)
theorem iop_shlNN : OpR X (inplaceOp .LShift) (rNc CShN fun n m => n * 2 ^ m) := opNc_of iop_shl (fun n m c => ⟨by omega, by have := c.2; omega, by have := c.1; omega⟩) (fun n m _ => shl_nn n m)
theorem op_shrNN : OpR X (binaryOp .RShift) (rNc (fun _ _ => True) fun n m => n / 2 ^ m) := opNc_of op_shr (fun n m _ => by omega) (fun n m _ => shr_nn n m)
theorem iop_shrNN : OpR X (inplaceOp .RShift) (rNc (fun _ _ => True) fun n m => n / 2 ^ m) := opNc_of iop_shr (fun n m _ => by omega) (fun n m _ => shr_nn n m)
theorem op_addNN : OpR X (binaryOp .Add) (rN fun n m => n + m) := opN_of op_add fun n m => by omega
end
/-! ### o[i] op= e of a list -/
theorem get_list {X : Cx} : PGet X (rIxL X.K) := by
  intro pins s σ H x y v u Q I rx ry h
  obtain ⟨p, xs, i, z, rfl, rfl, hq, he, q⟩ := h
  cases rx
  obtain ⟨t, rfl⟩ := ry
  obtain ⟨its, r, pl, hz⟩ := I.list hq
  obtain ⟨j, h1, h2, h3, h4, h5⟩ := atI_get he
  obtain ⟨w, ew, rw'⟩ := r.get h2
  have hl := r.length
  have hn := line63
  have fin : EP X pins σ Q w s := ⟨z, H, I, rw', q⟩
  by_cases h0 : 0 ≤ i
  · have hj : i.toNat = j := by
      rw [seqIndex_of h0 h5] at h1
      exact Option.some.inj h1
    exact wpAny_getItem_list pl.isList h0 (by omega) (by rw [hj]; simpa using ew) fin
  · have hj : (i + (its.toArray.size : Int)).toNat = j := by
      rw [seqIndex_neg (by omega) h4] at h1
      rw [List.size_toArray, ← hl]
      exact Option.some.inj h1
    exact wpAny_getItem_list_neg pl.isList (by omega) (by rw [List.size_toArray] <;> omega) (by omega) (by rw [hj]; simpa using ew) fin
/-! ### walks over a list or a tuple -/
section
variable {K : PySem.W.Frag} {H H' : Hp} {a : Addr} {xs : List V}
theorem rd_at {u : HO} (k : ∀ o, H a = some o → H' a = some o) (h : Rd H a u) : Rd H' a u := by
  rcases h with h | ⟨o, h⟩
  · exact .inl (k _ h)
  · exact .inr ⟨o, k _ h⟩
theorem sqL_at (k : ∀ o, H a = some o → H' a = some o) (h : SqL K H a xs) : SqL K H' a xs := by
  rcases h with h | h
  · exact .inl (rd_at k h)
  · exact .inr h
theorem sqT_at (k : ∀ o, H a = some o → H' a = some o) (h : SqT K H a xs) : SqT K H' a xs := by
  rcases h with h | h
  · exact .inl (rd_at k h)
  · exact .inr h
theorem SqA.at_ (h : SqA K H a xs) (k : ∀ o, H a = some o → H' a = some o) : SqA K H' a xs := h.imp (sqL_at k) (sqT_at k)
theorem SqA.same (h : SqA K H a xs) (e : Same H H') : SqA K H' a xs := h.at_ fun o q => e a o q
abbrev ForP (J : It) (g : TG) (tb : TS) (D : Ends) (σ : L2.St) (H1 : Hp) : Prop := ∃ W : Nat → Nat → L2.St → Hp → Prop, (∃ m, W 0 m σ H1) ∧ ∀ i m σ H, W i m σ H →
  (J.stop i H ∧ D.nx σ H) ∨ (J.go i H ∧ ∃ N : L2.St → Hp → Prop, (∀ σ' H', N σ' H' → ∃ m', m' < m ∧ W (i + 1) m' σ' H') ∧ ∀ x H', J.yld i H x H' → g x σ H' fun σ2 H2 => tb { D with nx := N, ct := N, bk := D.nx } σ2 H2)
/-- a for over a list or tuple that stands still -/
theorem for_seq {g : TG} {tb : TS} {D : Ends} {σ : L2.St} (hS : SqA K H a xs) (Pv : Nat → L2.St → Hp → Prop) (h0 : Pv 0 σ H) (hE : ∀ i σ' H', i ≤ xs.length → Pv i σ' H' → ∀ o, H a = some o → H' a = some o)
    (hs : ∀ i x σ' H', xs[i]? = some x → Pv i σ' H' → g x σ' H' fun σ2 H2 => tb { D with nx := Pv (i + 1), ct := Pv (i + 1), bk := D.nx } σ2 H2) (hd : ∀ σ' H', Pv xs.length σ' H' → D.nx σ' H') :
    ((∃ xs, SqL K H a xs) ∧ ForP (Itl K a) g tb D σ H) ∨ ((∃ xs, SqT K H a xs) ∧ ForP (Itt K a) g tb D σ H) := by
  rcases hS with hS | hS
  · exact .inl ⟨⟨_, hS⟩, for_it (walk_list (xs := xs)) Pv h0 (fun i σ' H' hi p => sqL_at (hE i σ' H' hi p) hS) (fun i x σ' H1 H2 hi p y => by obtain ⟨rfl, y⟩ := y; exact hs i x σ' H2 y p) hd⟩
  · exact .inr ⟨⟨_, hS⟩, for_it (walk_tup (xs := xs)) Pv h0 (fun i σ' H' hi p => sqT_at (hE i σ' H' hi p) hS) (fun i x σ' H1 H2 hi p y => by obtain ⟨rfl, y⟩ := y; exact hs i x σ' H2 y p) hd⟩
theorem walk_enumT : Walk (IteT K a) xs.length (fun H => SqT K H a xs) (YPair (fun i => some (.int (i : Nat))) (fun i => xs[i]?)) := by
  refine ⟨fun i _ hi q => ⟨xs, xs[i], q, by simp [hi]⟩, fun _ q => ⟨xs, q, Nat.le_refl _⟩, fun i H v H' _ q y => ?_⟩
  obtain ⟨T, x, h1, h2, h3, h4⟩ := y
  exact ⟨T, .int (i : Nat), x, h1, h2, h3, rfl, h4 xs q⟩
/-- for i, x in enumerate(..): two names -/
theorem for_enum {tb : TS} {D : Ends} {σ : L2.St} {g : TG} (hS : SqA K H a xs) (Pv : Nat → L2.St → Hp → Prop) (h0 : Pv 0 σ H) (hE : ∀ i σ' H', i ≤ xs.length → Pv i σ' H' → ∀ o, H a = some o → H' a = some o)
    (hs : ∀ (i : Nat) x T σ' H', xs[i]? = some x → Pv i σ' H' → H' T = none → g (.ref T) σ' (upd H' T (.tup [.int (i : Nat), x])) fun σ2 H2 => tb { D with nx := Pv (i + 1), ct := Pv (i + 1), bk := D.nx } σ2 H2) (hd : ∀ σ' H', Pv xs.length σ' H' → D.nx σ' H') :
    (SqL K H a xs ∧ ForP (Ite K a) g tb D σ H) ∨ (SqT K H a xs ∧ ForP (IteT K a) g tb D σ H) := by
  rcases hS with hS | hS
  · refine .inl ⟨hS, for_it (walk_enum (xs := xs)) Pv h0 (fun i σ' H' hi p => sqL_at (hE i σ' H' hi p) hS) (fun i v σ' H1 H2 hi p y => ?_) hd⟩
    obtain ⟨T, x, z, rfl, hT, rfl, e1, e2⟩ := y
    first
      | (cases e1; exact hs i z T σ' H1 e2 p hT)
  · refine .inr ⟨hS, for_it (walk_enumT (xs := xs)) Pv h0 (fun i σ' H' hi p => sqT_at (hE i σ' H' hi p) hS) (fun i v σ' H1 H2 hi p y => ?_) hd⟩
    obtain ⟨T, x, z, rfl, hT, rfl, e1, e2⟩ := y
    first
      | (cases e1; exact hs i z T σ' H1 e2 p hT)
abbrev LcP (J : It) (g : TG) (tt : TT) (te : TE) (vs : List Nat) (σ : L2.St) (H1 : Hp) (D : Addr) (Qd : Hp → Prop) : Prop := ∃ W : Nat → Nat → Hp → Prop, (∃ m, W 0 m (upd H1 D (.lst []))) ∧ ∀ i m H, W i m H →
  (J.stop i H ∧ Qd H) ∨ (J.go i H ∧ ∃ Nx : Hp → Prop, (∀ H', Nx H' → ∃ m', m' < m ∧ W (i + 1) m' H') ∧ ∀ x H', J.yld i H x H' → g x (wipe σ vs) H' fun σ2 H2 => wipe σ2 vs = wipe σ vs ∧ tt σ2 H2 fun b H3 =>
    if b = true then te σ2 H3 fun y H4 => ∃ acc, H4 D = some (.lst acc) ∧ acc.length < sizeLine ∧ Nx (upd H4 D (.lst (acc ++ [y]))) else Nx H3)
theorem lc_seq {g : TG} {tt : TT} {te : TE} {vs : List Nat} {σ : L2.St} {Q : Addr → Hp → Prop} (hS : SqA K H a xs) (Pv : Addr → Nat → Hp → Prop) (h0 : ∀ D, H D = none → Pv D 0 (upd H D (.lst []))) (hE : ∀ D i H', H D = none → i ≤ xs.length → Pv D i H' → ∀ o, H a = some o → H' a = some o)
    (hs : ∀ D i x H', H D = none → xs[i]? = some x → Pv D i H' → g x (wipe σ vs) H' fun σ2 H2 => wipe σ2 vs = wipe σ vs ∧ tt σ2 H2 fun b H3 =>
      if b = true then te σ2 H3 fun y H4 => ∃ acc, H4 D = some (.lst acc) ∧ acc.length < sizeLine ∧ Pv D (i + 1) (upd H4 D (.lst (acc ++ [y]))) else Pv D (i + 1) H3) (hd : ∀ D H', H D = none → Pv D xs.length H' → Q D H') :
    ((∃ xs, SqL K H a xs) ∧ ∀ D, H D = none → LcP (Itl K a) g tt te vs σ H D (Q D)) ∨ ((∃ xs, SqT K H a xs) ∧ ∀ D, H D = none → LcP (Itt K a) g tt te vs σ H D (Q D)) := by
  rcases hS with hS | hS
  · exact .inl ⟨⟨_, hS⟩, fun D hD => lc_it (walk_list (xs := xs)) (Pv D) (h0 D hD) (fun i H' hi p => sqL_at (hE D i H' hD hi p) hS) (fun i x H1 H2 hi p y => by obtain ⟨rfl, y⟩ := y; exact hs D i x H2 hD y p) (fun H' p => hd D H' hD p)⟩
  · exact .inr ⟨⟨_, hS⟩, fun D hD => lc_it (walk_tup (xs := xs)) (Pv D) (h0 D hD) (fun i H' hi p => sqT_at (hE D i H' hD hi p) hS) (fun i x H1 H2 hi p y => by obtain ⟨rfl, y⟩ := y; exact hs D i x H2 hD y p) (fun H' p => hd D H' hD p)⟩
theorem lc_enum {g : TG} {tt : TT} {te : TE} {vs : List Nat} {σ : L2.St} {Q : Addr → Hp → Prop} (hS : SqA K H a xs) (Pv : Addr → Nat → Hp → Prop) (h0 : ∀ D, H D = none → Pv D 0 (upd H D (.lst []))) (hE : ∀ D i H', H D = none → i ≤ xs.length → Pv D i H' → ∀ o, H a = some o → H' a = some o)
    (hs : ∀ D (i : Nat) x T H', H D = none → xs[i]? = some x → Pv D i H' → H' T = none → g (.ref T) (wipe σ vs) (upd H' T (.tup [.int (i : Nat), x])) fun σ2 H2 => wipe σ2 vs = wipe σ vs ∧ tt σ2 H2 fun b H3 =>
      if b = true then te σ2 H3 fun y H4 => ∃ acc, H4 D = some (.lst acc) ∧ acc.length < sizeLine ∧ Pv D (i + 1) (upd H4 D (.lst (acc ++ [y]))) else Pv D (i + 1) H3) (hd : ∀ D H', H D = none → Pv D xs.length H' → Q D H') :
    (SqL K H a xs ∧ ∀ D, H D = none → LcP (Ite K a) g tt te vs σ H D (Q D)) ∨ (SqT K H a xs ∧ ∀ D, H D = none → LcP (IteT K a) g tt te vs σ H D (Q D)) := by
  rcases hS with hS | hS
  · refine .inl ⟨hS, fun D hD => lc_it (walk_enum (xs := xs)) (Pv D) (h0 D hD) (fun i H' hi p => sqL_at (hE D i H' hD hi p) hS) (fun i v H1 H2 hi p y => ?_) (fun H' p => hd D H' hD p)⟩
    obtain ⟨T, x, z, rfl, hT, rfl, e1, e2⟩ := y
    first
      | (cases e1; exact hs D i z T H1 hD e2 p hT)
  · refine .inr ⟨hS, fun D hD => lc_it (walk_enumT (xs := xs)) (Pv D) (h0 D hD) (fun i H' hi p => sqT_at (hE D i H' hD hi p) hS) (fun i v H1 H2 hi p y => ?_) (fun H' p => hd D H' hD p)⟩
    obtain ⟨T, x, z, rfl, hT, rfl, e1, e2⟩ := y
    first
      | (cases e1; exact hs D i z T H1 hD e2 p hT)
end
/-! ### kinds -/
def tyName : V → Option String
  | .non => some "NoneType"
  | .bl _ => some "bool"
  | .int _ => some "int"
  | .str _ => some "str"
  | _ => none
end Bm


set_option Elab.async false
set_option linter.all false
set_option maxRecDepth 100000
set_option maxHeartbeats 4000000
namespace Bm
open PySem PySem.Spec PyProof.Rows L2
theorem iof {mg : Str → Option Value} {x : Str} {i : Int} (h : ∃ t, mg x = some (.int i t)) : ∃ u, mg x = some u ∧ RelV (.int i) u := by
  obtain ⟨t, h⟩ := h
  exact ⟨_, h, t, rfl⟩
theorem sof {mg : Str → Option Value} {x z : Str} (h : ∃ t, mg x = some (.str z t)) : ∃ u, mg x = some u ∧ RelV (.str z) u := by
  obtain ⟨t, h⟩ := h
  exact ⟨_, h, t, rfl⟩
section
variable {P : Program} {w : World} {K : PySem.W.Frag} {mg : Str → Option Value} {base : Heap}
/-- from a def and its promise to what callers use -/
theorem Fn.of {CX : CXT} {k : Nat} {x qual : Str} {params : Arguments} {body : List Stmt} {scope : Scope} {dvs dv0 : List V} {f : Addr} {fd : FuncData} {ps : List Str} {sp : Sp} (F : FunD K x qual params body scope dv0 [] f fd) (g : mg x = some (.ref f)) (b : ∃ ds, Vals dvs ds ∧ L2.Binds K fd ps ds)
    (ok : FnOk P w K mg base CX k f fd ps sp) : Fn P w K mg base CX k x sp dvs := by
  obtain ⟨ds, h1, h2⟩ := b
  exact ⟨f, fd, ps, ds, g, F.kp, h2, h1, ok⟩
theorem bnd0 {x qual : Str} {params : Arguments} {body : List Stmt} {scope : Scope} {f : Addr} {fd : FuncData} {ps : List Str} (F : FunD K x qual params body scope [] [] f fd)
    (h : ∀ (kV doc pm : Value) (an : Option Addr) (cdv ct : Value) (us : List Value), us.length = ps.length → bindArgs (PySem.W.fnOf x qual params body scope .none kV doc pm an cdv ct) ⟨us, []⟩ = pure (ps.zip us)) : ∃ ds, Vals [] ds ∧ L2.Binds K fd ps ds :=
  ⟨[], .nil, F.bindsN h⟩
end
theorem iteD {p A B : Prop} [Decidable p] (h1 : p → A) (h2 : ¬ p → B) : if decide p = true then A else B := by
  by_cases h : p
  · rw [if_pos (decide_eq_true h)]
    exact h1 h
  · rw [if_neg (by rw [decide_eq_false h]; exact Bool.false_ne_true)]
    exact h2 h
theorem iteDT {p A B : Prop} [Decidable p] (h : p) (a : A) : if decide p = true then A else B := by
  rw [if_pos (decide_eq_true h)]
  exact a
theorem iteDF {p A B : Prop} [Decidable p] (h : ¬ p) (b : B) : if decide p = true then A else B := by
  rw [if_neg (by rw [decide_eq_false h]; exact Bool.false_ne_true)]
  exact b
theorem iteB {b : Bool} {A B : Prop} (h1 : b = true → A) (h2 : b = false → B) : if b = true then A else B := by
  cases b
  · exact iteF (h2 rfl)
  · exact iteT (h1 rfl)
theorem iteBT {b : Bool} {A B : Prop} (h : b = true) (a : A) : if b = true then A else B := by
  rw [if_pos h]
  exact a
theorem iteBF {b : Bool} {A B : Prop} (h : b = false) (a : B) : if b = true then A else B := by
  rw [h]
  exact iteF a
/-! ### what a thing's kind is -/
inductive Kd (K : PySem.W.Frag) (H : Hp) : V → String → Prop
  | non : Kd K H .non "NoneType"
  | bl (b : Bool) : Kd K H (.bl b) "bool"
  | int (i : Int) : Kd K H (.int i) "int"
  | str (x : Str) : Kd K H (.str x) "str"
  | lst {a : Addr} {xs : List V} (h : SqL K H a xs) : Kd K H (.ref a) "list"
  | tup {a : Addr} {xs : List V} (h : SqT K H a xs) : Kd K H (.ref a) "tuple"
end Bm
namespace Bm
open PySem PySem.Spec PyProof.Rows L2
section
variable {K : PySem.W.Frag} {H H' : Hp} {v : V} {n : String}
theorem ty_lst {a : Addr} {xs : List V} (h : SqL K H a xs) : TyX K H (.ref a) (.type "list") := by
  rcases h with (h | ⟨o, h⟩) | ⟨o, its, m, h, hc, _⟩
  · exact .base (.lst h)
  · exact .base (.frz h)
  · exact .kList h hc
theorem ty_tup {a : Addr} {xs : List V} (h : SqT K H a xs) : TyX K H (.ref a) (.type "tuple") := by
  rcases h with (h | ⟨o, h⟩) | ⟨o, its, m, h, hc, _⟩
  · exact .base (.tup h)
  · exact .fTuple h
  · exact .kTuple h hc
theorem Kd.ty (k : Kd K H v n) : TyX K H v (.type n) := by
  cases k with
  | non => exact .base .non
  | bl b => exact .base (.bl b)
  | int i => exact .base (.int i)
  | str x => exact .base (.str x)
  | lst h => exact ty_lst h
  | tup h => exact ty_tup h
theorem Kd.same (k : Kd K H v n) (e : Same H H') : Kd K H' v n := by
  cases k with
  | non => exact .non
  | bl b => exact .bl b
  | int i => exact .int i
  | str x => exact .str x
  | lst h => exact .lst (e.seq h)
  | tup h => exact .tup (sqT_at (fun o q => e _ o q) h)
def isiB (n c : String) : Bool := decide (n = c) || (decide (c = "int") && decide (n = "bool"))
def kdNames : List String := ["NoneType", "bool", "int", "str", "list", "tuple"]
theorem Kd.mem (k : Kd K H v n) : n ∈ kdNames := by cases k <;> decide
theorem kit_all : ∀ n ∈ kdNames, ∀ c ∈ ["int", "bool", "str", "list", "tuple"], kitB n c = some (isiB n c) := by decide +kernel
theorem Kd.kit (k : Kd K H v n) {c : String} (hc : c ∈ ["int", "bool", "str", "list", "tuple"]) : PySem.W.kitOne K (.type n) (.type c) = some (isiB n c) := kit_ty (kit_all n k.mem c hc)
theorem isi_ok {c : String} {Q : VK} (k : Kd K H v n) (hc : c ∈ ["int", "bool", "str", "list", "tuple"]) (q : Q (.bl (isiB n c)) H) : rIsi K [v, .ty c] H Q :=
  ⟨v, .ty c, .type n, .type c, isiB n c, rfl, .ty c, k.ty, kit_ty (kit_all n k.mem c hc), q⟩
theorem isiT_ok {tp : Addr} {cs : List String} {Q : VK} (k : Kd K H v n) (hc : ∀ c ∈ cs, c ∈ ["int", "bool", "str", "list", "tuple"]) (h : H tp = some (.tup (cs.map V.ty))) (q : Q (.bl (cs.any fun c => isiB n c)) H) : rIsiT K [v, .ref tp] H Q := by
  refine ⟨v, tp, cs.map V.ty, .type n, cs.map Value.type, _, rfl, h, ?_, k.ty, ?_, q⟩
  · clear h q hc
    induction cs with
    | nil => exact .nil
    | cons c cs ih => exact .cons (.ty c) ih
  · clear h q
    induction cs with
    | nil => rfl
    | cons c cs ih =>
      refine kitAny_cons (kit_ty (kit_all n k.mem c (hc c List.mem_cons_self))) (fun hb => ?_) (fun hb => ?_)
      · rw [ih (fun c h => hc c (List.mem_cons_of_mem _ h)), List.any_cons, hb, Bool.false_or]
      · rw [List.any_cons, hb, Bool.true_or]
/-! ### is_whole -/
def isWhole (v : V) (lo hi : Int) : Bool := match v with
  | .int i => decide (lo ≤ i) && decide (i ≤ hi)
  | _ => false
def spWhole (K : PySem.W.Frag) : Sp := fun vs H Q _ => ∃ (v : V) (n : String) (lo hi : Int), vs = [v, .int lo, .int hi] ∧ Kd K H v n ∧ Q (.bl (isWhole v lo hi)) H
/-! ### odd counts of bits -/
def oddB (n : Nat) : Bool := if h : n = 0 then false else (n % 2 == 1) ^^ oddB (n / 2)
decreasing_by omega
theorem oddB_zero : oddB 0 = false := by unfold oddB; rfl
theorem oddB_step {n : Nat} (h : n ≠ 0) : oddB n = ((n % 2 == 1) ^^ oddB (n / 2)) := by
  conv => lhs; unfold oddB
  rw [dif_neg h]
def spOdd : Sp := fun vs H Q _ => ∃ n : Nat, vs = [.int (n : Int)] ∧ Q (.bl (oddB n)) H
end
end Bm


set_option autoImplicit false
set_option Elab.async false
set_option linter.all false
set_option maxRecDepth 100000
set_option maxHeartbeats 4000000
namespace Lk04
open PySem PySem.Spec PyProof.Rows L2 Bm
local macro_rules
  | `(tactic| array_get_dec) => `(tactic| first | refine ⟨_, rfl, ?_⟩ | refine ⟨_, _, rfl, rfl, ?_⟩ | refine ⟨rfl, ?_⟩ | refine ⟨_, _, rfl, ?_⟩ | refine ⟨⟨_, rfl⟩, ?_⟩ | refine iteDT (by decide) ?_ | refine iteDF (by decide) ?_ | refine iteBT (by decide) ?_ | refine iteBF (by decide) ?_ | refine ⟨_, _, rfl, rfl, ⟨by decide, by decide⟩, ?_⟩)
local macro_rules
  | `(tactic| and_intros) => `(tactic| (repeat (array_get_dec)))
structure Txt (K : PySem.W.Frag) (mg : Str → Option Value) : Prop where
  y : Bm.XF2 ["BadDeed", "BadReach", "NoDeed", "BadCount", "NoMend"] ["BadImage", "BadGiven", "BadList"] K
  x : Bm.XF K
  g_is_whole : mg "is_whole" = some (.ref (He.ga K "is_whole"))
  g_field : mg "field" = some (.ref (He.ga K "field"))
  g_signed : mg "signed" = some (.ref (He.ga K "signed"))
  g_numbers_of : mg "numbers_of" = some (.ref (He.ga K "numbers_of"))
  g_deed_of : mg "deed_of" = some (.ref (He.ga K "deed_of"))
  g_packed : mg "packed" = some (.ref (He.ga K "packed"))
  g_need_words : mg "need_words" = some (.ref (He.ga K "need_words"))
  g_unpacked : mg "unpacked" = some (.ref (He.ga K "unpacked"))
  g_law_start : mg "_law_start" = some (.ref (He.ga K "_law_start"))
  g_law_drawn : mg "_law_drawn" = some (.ref (He.ga K "_law_drawn"))
  g_law_same : mg "_law_same" = some (.ref (He.ga K "_law_same"))
  g_law_kind : mg "_law_kind" = some (.ref (He.ga K "_law_kind"))
  g_law_plain : mg "_law_plain" = some (.ref (He.ga K "_law_plain"))
  g_law_pairs : mg "_law_pairs" = some (.ref (He.ga K "_law_pairs"))
  g_law_times : mg "_law_times" = some (.ref (He.ga K "_law_times"))
  g_law_number : mg "_law_number" = some (.ref (He.ga K "_law_number"))
  g_law_deed : mg "_law_deed" = some (.ref (He.ga K "_law_deed"))
  g_law : mg "law" = some (.ref (He.ga K "law"))
  c_MillError : mg "MillError" = some (.ref (He.ga K "MillError"))
  c_BadDeed : mg "BadDeed" = some (.ref (He.ga K "BadDeed"))
  c_BadReach : mg "BadReach" = some (.ref (He.ga K "BadReach"))
  c_NoDeed : mg "NoDeed" = some (.ref (He.ga K "NoDeed"))
  c_BadCount : mg "BadCount" = some (.ref (He.ga K "BadCount"))
  c_NoMend : mg "NoMend" = some (.ref (He.ga K "NoMend"))
  c_Numbered : mg "Numbered" = some (.ref (He.ga K "Numbered"))
  c_BadImage : mg "BadImage" = some (.ref (He.ga K "BadImage"))
  c_BadGiven : mg "BadGiven" = some (.ref (He.ga K "BadGiven"))
  c_BadList : mg "BadList" = some (.ref (He.ga K "BadList"))
  c_BadRow : mg "BadRow" = some (.ref (He.ga K "BadRow"))
  c_Part : mg "Part" = some (.ref (He.ga K "Part"))
  c_Form : mg "Form" = some (.ref (He.ga K "Form"))
  c_Near : mg "Near" = some (.ref (He.ga K "Near"))
  c_Far : mg "Far" = some (.ref (He.ga K "Far"))
  c_Book : mg "Book" = some (.ref (He.ga K "Book"))
  b_ValueError : mg "ValueError" = none
  b_all : mg "all" = none
  b_bool : mg "bool" = none
  b_enumerate : mg "enumerate" = none
  b_int : mg "int" = none
  b_isinstance : mg "isinstance" = none
  b_len : mg "len" = none
  b_list : mg "list" = none
  b_max : mg "max" = none
  b_min : mg "min" = none
  b_range : mg "range" = none
  b_str : mg "str" = none
  b_tuple : mg "tuple" = none
  b_zip : mg "zip" = none
  i_LAST : ∃ u, mg "LAST" = some u ∧ RelV (.int 65535) u
  i_BARE : ∃ u, mg "BARE" = some u ∧ RelV (.int 3) u
  i_MOST_WORDS : ∃ u, mg "MOST_WORDS" = some u ∧ RelV (.int 200) u
  kc_Part : Cls K (He.ga K "Part")
  km_Part : Mk K (He.ga K "Part") (He.ma K (He.ga K "Part") "__init__")
  m_Part_holds : Meth K (He.ga K "Part") "holds" (He.ma K (He.ga K "Part") "holds")
  m_Part_bits : Meth K (He.ga K "Part") "bits" (He.ma K (He.ga K "Part") "bits")
  m_Part_taken : Meth K (He.ga K "Part") "taken" (He.ma K (He.ga K "Part") "taken")
  n_Part_at : NoAttr K (He.ga K "Part") "at"
  n_Part_many : NoAttr K (He.ga K "Part") "many"
  n_Part_signs : NoAttr K (He.ga K "Part") "signs"
  kc_Form : Cls K (He.ga K "Form")
  km_Form : Mk K (He.ga K "Form") (He.ma K (He.ga K "Form") "__init__")
  m_Form_need_parts : Meth K (He.ga K "Form") "need_parts" (He.ma K (He.ga K "Form") "need_parts")
  m_Form_need : Meth K (He.ga K "Form") "need" (He.ma K (He.ga K "Form") "need")
  m_Form_one_word : Meth K (He.ga K "Form") "one_word" (He.ma K (He.ga K "Form") "one_word")
  m_Form_numbers : Meth K (He.ga K "Form") "numbers" (He.ma K (He.ga K "Form") "numbers")
  m_Form_words : Meth K (He.ga K "Form") "words" (He.ma K (He.ga K "Form") "words")
  m_Form_read : Meth K (He.ga K "Form") "read" (He.ma K (He.ga K "Form") "read")
  m_Form_size : Meth K (He.ga K "Form") "size" (He.ma K (He.ga K "Form") "size")
  n_Form_op : NoAttr K (He.ga K "Form") "op"
  n_Form_parts : NoAttr K (He.ga K "Form") "parts"
  kc_Near : Cls K (He.ga K "Near")
  km_Near : Mk K (He.ga K "Near") (He.ma K (He.ga K "Near") "__init__")
  m_Near_need : Meth K (He.ga K "Near") "need" (He.ma K (He.ga K "Near") "need")
  m_Near_words : Meth K (He.ga K "Near") "words" (He.ma K (He.ga K "Near") "words")
  m_Near_read : Meth K (He.ga K "Near") "read" (He.ma K (He.ga K "Near") "read")
  m_Near_need_parts : Meth K (He.ga K "Near") "need_parts" (He.ma K (He.ga K "Near") "need_parts")
  m_Near_one_word : Meth K (He.ga K "Near") "one_word" (He.ma K (He.ga K "Near") "one_word")
  m_Near_numbers : Meth K (He.ga K "Near") "numbers" (He.ma K (He.ga K "Near") "numbers")
  m_Near_size : Meth K (He.ga K "Near") "size" (He.ma K (He.ga K "Near") "size")
  n_Near_op : NoAttr K (He.ga K "Near") "op"
  n_Near_parts : NoAttr K (He.ga K "Near") "parts"
  kc_Far : Cls K (He.ga K "Far")
  km_Far : Mk K (He.ga K "Far") (He.ma K (He.ga K "Far") "__init__")
  m_Far_need : Meth K (He.ga K "Far") "need" (He.ma K (He.ga K "Far") "need")
  m_Far_words : Meth K (He.ga K "Far") "words" (He.ma K (He.ga K "Far") "words")
  m_Far_read : Meth K (He.ga K "Far") "read" (He.ma K (He.ga K "Far") "read")
  m_Far_size : Meth K (He.ga K "Far") "size" (He.ma K (He.ga K "Far") "size")
  m_Far_need_parts : Meth K (He.ga K "Far") "need_parts" (He.ma K (He.ga K "Far") "need_parts")
  m_Far_one_word : Meth K (He.ga K "Far") "one_word" (He.ma K (He.ga K "Far") "one_word")
  m_Far_numbers : Meth K (He.ga K "Far") "numbers" (He.ma K (He.ga K "Far") "numbers")
  n_Far_op : NoAttr K (He.ga K "Far") "op"
  n_Far_parts : NoAttr K (He.ga K "Far") "parts"
  kc_Book : Cls K (He.ga K "Book")
  km_Book : Mk K (He.ga K "Book") (He.ma K (He.ga K "Book") "__init__")
  m_Book_packed : Meth K (He.ga K "Book") "packed" (He.ma K (He.ga K "Book") "packed")
  m_Book_need : Meth K (He.ga K "Book") "need" (He.ma K (He.ga K "Book") "need")
  m_Book_unpacked : Meth K (He.ga K "Book") "unpacked" (He.ma K (He.ga K "Book") "unpacked")
  n_Book_forms : NoAttr K (He.ga K "Book") "forms"
  c_PLAIN : mg "PLAIN" = some (.ref (He.ga K "PLAIN"))
  c_PAIRS : mg "PAIRS" = some (.ref (He.ga K "PAIRS"))
  c_WHENS : mg "WHENS" = some (.ref (He.ga K "WHENS"))
  c_NUMBERED : mg "NUMBERED" = some (.ref (He.ga K "NUMBERED"))
  c_NAMES : mg "NAMES" = some (.ref (He.ga K "NAMES"))
  t_PLAIN : ∀ H, SqT K H (He.ga K "PLAIN") [.str "halt", .str "rest", .str "back", .str "say", .str "ask", .str "push", .str "pop"]
  d_PLAIN : ∃ o, K.lookup (He.ga K "PLAIN") = some o ∧ o.cls = .type "tuple" ∧ o.dict = none
  t_PAIRS : ∀ H, SqT K H (He.ga K "PAIRS") [.str "add", .str "less", .str "and", .str "or", .str "xor", .str "left", .str "right", .str "turn"]
  d_PAIRS : ∃ o, K.lookup (He.ga K "PAIRS") = some o ∧ o.cls = .type "tuple" ∧ o.dict = none
  t_WHENS : ∀ H, SqT K H (He.ga K "WHENS") [.str "always", .str "zero", .str "some", .str "carry", .str "clear", .str "minus", .str "over"]
  d_WHENS : ∃ o, K.lookup (He.ga K "WHENS") = some o ∧ o.cls = .type "tuple" ∧ o.dict = none
  t_NUMBERED : ∀ H, SqT K H (He.ga K "NUMBERED") [.str "plus", .str "set", .str "high", .str "load", .str "store"]
  d_NUMBERED : ∃ o, K.lookup (He.ga K "NUMBERED") = some o ∧ o.cls = .type "tuple" ∧ o.dict = none
  t_NAMES : ∀ H, SqT K H (He.ga K "NAMES") [.str "plain", .str "pair", .str "plus", .str "set", .str "high", .str "load", .str "store", .str "jump", .str "far jump", .str "call", .str "far call"]
  d_NAMES : ∃ o, K.lookup (He.ga K "NAMES") = some o ∧ o.cls = .type "tuple" ∧ o.dict = none
structure Defs (K : PySem.W.Frag) : Prop where
  is_whole : ∃ fd, FunD K "is_whole" "is_whole" (defArgs s_is_whole) (defBody s_is_whole) (defScope s_is_whole) [.int (0), .int (65535)] [] (He.ga K "is_whole") fd
  field : ∃ fd, FunD K "field" "field" (defArgs s_field) (defBody s_field) (defScope s_field) [] [] (He.ga K "field") fd
  signed : ∃ fd, FunD K "signed" "signed" (defArgs s_signed) (defBody s_signed) (defScope s_signed) [] [] (He.ga K "signed") fd
  Numbered_init : ∃ fd, FunD K "__init__" "Numbered.__init__" (defArgs s_Numbered_init) (defBody s_Numbered_init) (defScope s_Numbered_init) [] [] (He.ma K (He.ga K "Numbered") "__init__") fd
  BadRow_init : ∃ fd, FunD K "__init__" "BadRow.__init__" (defArgs s_BadRow_init) (defBody s_BadRow_init) (defScope s_BadRow_init) [] [] (He.ma K (He.ga K "BadRow") "__init__") fd
  Part_init : ∃ fd, FunD K "__init__" "Part.__init__" (defArgs s_Part_init) (defBody s_Part_init) (defScope s_Part_init) [.bl false] [] (He.ma K (He.ga K "Part") "__init__") fd
  Part_holds : ∃ fd, FunD K "holds" "Part.holds" (defArgs s_Part_holds) (defBody s_Part_holds) (defScope s_Part_holds) [] [] (He.ma K (He.ga K "Part") "holds") fd
  Part_bits : ∃ fd, FunD K "bits" "Part.bits" (defArgs s_Part_bits) (defBody s_Part_bits) (defScope s_Part_bits) [] [] (He.ma K (He.ga K "Part") "bits") fd
  Part_taken : ∃ fd, FunD K "taken" "Part.taken" (defArgs s_Part_taken) (defBody s_Part_taken) (defScope s_Part_taken) [] [] (He.ma K (He.ga K "Part") "taken") fd
  Form_init : ∃ fd, FunD K "__init__" "Form.__init__" (defArgs s_Form_init) (defBody s_Form_init) (defScope s_Form_init) [] [] (He.ma K (He.ga K "Form") "__init__") fd
  Form_need_parts : ∃ fd, FunD K "need_parts" "Form.need_parts" (defArgs s_Form_need_parts) (defBody s_Form_need_parts) (defScope s_Form_need_parts) [] [] (He.ma K (He.ga K "Form") "need_parts") fd
  Form_need : ∃ fd, FunD K "need" "Form.need" (defArgs s_Form_need) (defBody s_Form_need) (defScope s_Form_need) [] [] (He.ma K (He.ga K "Form") "need") fd
  Form_one_word : ∃ fd, FunD K "one_word" "Form.one_word" (defArgs s_Form_one_word) (defBody s_Form_one_word) (defScope s_Form_one_word) [] [] (He.ma K (He.ga K "Form") "one_word") fd
  Form_numbers : ∃ fd, FunD K "numbers" "Form.numbers" (defArgs s_Form_numbers) (defBody s_Form_numbers) (defScope s_Form_numbers) [] [] (He.ma K (He.ga K "Form") "numbers") fd
  Form_words : ∃ fd, FunD K "words" "Form.words" (defArgs s_Form_words) (defBody s_Form_words) (defScope s_Form_words) [] [] (He.ma K (He.ga K "Form") "words") fd
  Form_read : ∃ fd, FunD K "read" "Form.read" (defArgs s_Form_read) (defBody s_Form_read) (defScope s_Form_read) [] [] (He.ma K (He.ga K "Form") "read") fd
  Form_size : ∃ fd, FunD K "size" "Form.size" (defArgs s_Form_size) (defBody s_Form_size) (defScope s_Form_size) [] [] (He.ma K (He.ga K "Form") "size") fd
  Near_need : ∃ fd, FunD K "need" "Near.need" (defArgs s_Near_need) (defBody s_Near_need) (defScope s_Near_need) [] [] (He.ma K (He.ga K "Near") "need") fd
  Near_words : ∃ fd, FunD K "words" "Near.words" (defArgs s_Near_words) (defBody s_Near_words) (defScope s_Near_words) [] [] (He.ma K (He.ga K "Near") "words") fd
  Near_read : ∃ fd, FunD K "read" "Near.read" (defArgs s_Near_read) (defBody s_Near_read) (defScope s_Near_read) [] [] (He.ma K (He.ga K "Near") "read") fd
  Far_need : ∃ fd, FunD K "need" "Far.need" (defArgs s_Far_need) (defBody s_Far_need) (defScope s_Far_need) [] [] (He.ma K (He.ga K "Far") "need") fd
  Far_words : ∃ fd, FunD K "words" "Far.words" (defArgs s_Far_words) (defBody s_Far_words) (defScope s_Far_words) [] [] (He.ma K (He.ga K "Far") "words") fd
  Far_read : ∃ fd, FunD K "read" "Far.read" (defArgs s_Far_read) (defBody s_Far_read) (defScope s_Far_read) [] [] (He.ma K (He.ga K "Far") "read") fd
  Far_size : ∃ fd, FunD K "size" "Far.size" (defArgs s_Far_size) (defBody s_Far_size) (defScope s_Far_size) [] [] (He.ma K (He.ga K "Far") "size") fd
  Book_init : ∃ fd, FunD K "__init__" "Book.__init__" (defArgs s_Book_init) (defBody s_Book_init) (defScope s_Book_init) [] [] (He.ma K (He.ga K "Book") "__init__") fd
  Book_packed : ∃ fd, FunD K "packed" "Book.packed" (defArgs s_Book_packed) (defBody s_Book_packed) (defScope s_Book_packed) [] [] (He.ma K (He.ga K "Book") "packed") fd
  Book_need : ∃ fd, FunD K "need" "Book.need" (defArgs s_Book_need) (defBody s_Book_need) (defScope s_Book_need) [] [] (He.ma K (He.ga K "Book") "need") fd
  Book_unpacked : ∃ fd, FunD K "unpacked" "Book.unpacked" (defArgs s_Book_unpacked) (defBody s_Book_unpacked) (defScope s_Book_unpacked) [] [] (He.ma K (He.ga K "Book") "unpacked") fd
  numbers_of : ∃ fd, FunD K "numbers_of" "numbers_of" (defArgs s_numbers_of) (defBody s_numbers_of) (defScope s_numbers_of) [] [] (He.ga K "numbers_of") fd
  deed_of : ∃ fd, FunD K "deed_of" "deed_of" (defArgs s_deed_of) (defBody s_deed_of) (defScope s_deed_of) [] [] (He.ga K "deed_of") fd
  packed : ∃ fd, FunD K "packed" "packed" (defArgs s_packed) (defBody s_packed) (defScope s_packed) [.int (0)] [] (He.ga K "packed") fd
  need_words : ∃ fd, FunD K "need_words" "need_words" (defArgs s_need_words) (defBody s_need_words) (defScope s_need_words) [] [] (He.ga K "need_words") fd
  unpacked : ∃ fd, FunD K "unpacked" "unpacked" (defArgs s_unpacked) (defBody s_unpacked) (defScope s_unpacked) [.int (0)] [] (He.ga K "unpacked") fd
  law_start : ∃ fd, FunD K "_law_start" "_law_start" (defArgs s_law_start) (defBody s_law_start) (defScope s_law_start) [] [] (He.ga K "_law_start") fd
  law_drawn : ∃ fd, FunD K "_law_drawn" "_law_drawn" (defArgs s_law_drawn) (defBody s_law_drawn) (defScope s_law_drawn) [] [] (He.ga K "_law_drawn") fd
  law_same : ∃ fd, FunD K "_law_same" "_law_same" (defArgs s_law_same) (defBody s_law_same) (defScope s_law_same) [] [] (He.ga K "_law_same") fd
  law_kind : ∃ fd, FunD K "_law_kind" "_law_kind" (defArgs s_law_kind) (defBody s_law_kind) (defScope s_law_kind) [] [] (He.ga K "_law_kind") fd
  law_plain : ∃ fd, FunD K "_law_plain" "_law_plain" (defArgs s_law_plain) (defBody s_law_plain) (defScope s_law_plain) [] [] (He.ga K "_law_plain") fd
  law_pairs : ∃ fd, FunD K "_law_pairs" "_law_pairs" (defArgs s_law_pairs) (defBody s_law_pairs) (defScope s_law_pairs) [] [] (He.ga K "_law_pairs") fd
  law_times : ∃ fd, FunD K "_law_times" "_law_times" (defArgs s_law_times) (defBody s_law_times) (defScope s_law_times) [] [] (He.ga K "_law_times") fd
  law_number : ∃ fd, FunD K "_law_number" "_law_number" (defArgs s_law_number) (defBody s_law_number) (defScope s_law_number) [] [] (He.ga K "_law_number") fd
  law_deed : ∃ fd, FunD K "_law_deed" "_law_deed" (defArgs s_law_deed) (defBody s_law_deed) (defScope s_law_deed) [] [] (He.ga K "_law_deed") fd
  law : ∃ fd, FunD K "law" "law" (defArgs s_law) (defBody s_law) (defScope s_law) [] [] (He.ga K "law") fd
  Near_init : ∃ fd, FunD K "__init__" "Form.__init__" (defArgs s_Form_init) (defBody s_Form_init) (defScope s_Form_init) [] [] (He.ma K (He.ga K "Near") "__init__") fd
  Near_need_parts : ∃ fd, FunD K "need_parts" "Form.need_parts" (defArgs s_Form_need_parts) (defBody s_Form_need_parts) (defScope s_Form_need_parts) [] [] (He.ma K (He.ga K "Near") "need_parts") fd
  Near_one_word : ∃ fd, FunD K "one_word" "Form.one_word" (defArgs s_Form_one_word) (defBody s_Form_one_word) (defScope s_Form_one_word) [] [] (He.ma K (He.ga K "Near") "one_word") fd
  Near_numbers : ∃ fd, FunD K "numbers" "Form.numbers" (defArgs s_Form_numbers) (defBody s_Form_numbers) (defScope s_Form_numbers) [] [] (He.ma K (He.ga K "Near") "numbers") fd
  Near_size : ∃ fd, FunD K "size" "Form.size" (defArgs s_Form_size) (defBody s_Form_size) (defScope s_Form_size) [] [] (He.ma K (He.ga K "Near") "size") fd
  Far_init : ∃ fd, FunD K "__init__" "Form.__init__" (defArgs s_Form_init) (defBody s_Form_init) (defScope s_Form_init) [] [] (He.ma K (He.ga K "Far") "__init__") fd
  Far_need_parts : ∃ fd, FunD K "need_parts" "Form.need_parts" (defArgs s_Form_need_parts) (defBody s_Form_need_parts) (defScope s_Form_need_parts) [] [] (He.ma K (He.ga K "Far") "need_parts") fd
  Far_one_word : ∃ fd, FunD K "one_word" "Form.one_word" (defArgs s_Form_one_word) (defBody s_Form_one_word) (defScope s_Form_one_word) [] [] (He.ma K (He.ga K "Far") "one_word") fd
  Far_numbers : ∃ fd, FunD K "numbers" "Form.numbers" (defArgs s_Form_numbers) (defBody s_Form_numbers) (defScope s_Form_numbers) [] [] (He.ma K (He.ga K "Far") "numbers") fd
theorem txt_of {w : World} {K : PySem.W.Frag} {h : Heap} {mg : Str → Option Value} (X : K.In h) (G : h.Ns mainGlobals mg) (c : He.SaysX fa fn [] tf xAll w h K) : Txt K mg :=
  ⟨Bm.xB2_ok (He.ba c.more).1,
   Bm.xB_ok (He.ba (He.ba c.more).2).1,
   He.glo_ok X G (c.t.d.fact 0 (f := .glo "is_whole") rfl),
   He.glo_ok X G (c.t.d.fact 1 (f := .glo "field") rfl),
   He.glo_ok X G (c.t.d.fact 2 (f := .glo "signed") rfl),
   He.glo_ok X G (c.t.d.fact 3 (f := .glo "numbers_of") rfl),
   He.glo_ok X G (c.t.d.fact 4 (f := .glo "deed_of") rfl),
   He.glo_ok X G (c.t.d.fact 5 (f := .glo "packed") rfl),
   He.glo_ok X G (c.t.d.fact 6 (f := .glo "need_words") rfl),
   He.glo_ok X G (c.t.d.fact 7 (f := .glo "unpacked") rfl),
   He.glo_ok X G (c.t.d.fact 8 (f := .glo "_law_start") rfl),
   He.glo_ok X G (c.t.d.fact 9 (f := .glo "_law_drawn") rfl),
   He.glo_ok X G (c.t.d.fact 10 (f := .glo "_law_same") rfl),
   He.glo_ok X G (c.t.d.fact 11 (f := .glo "_law_kind") rfl),
   He.glo_ok X G (c.t.d.fact 12 (f := .glo "_law_plain") rfl),
   He.glo_ok X G (c.t.d.fact 13 (f := .glo "_law_pairs") rfl),
   He.glo_ok X G (c.t.d.fact 14 (f := .glo "_law_times") rfl),
   He.glo_ok X G (c.t.d.fact 15 (f := .glo "_law_number") rfl),
   He.glo_ok X G (c.t.d.fact 16 (f := .glo "_law_deed") rfl),
   He.glo_ok X G (c.t.d.fact 17 (f := .glo "law") rfl),
   He.glo_ok X G (c.t.d.fact 18 (f := .glo "MillError") rfl),
   He.glo_ok X G (c.t.d.fact 19 (f := .glo "BadDeed") rfl),
   He.glo_ok X G (c.t.d.fact 20 (f := .glo "BadReach") rfl),
   He.glo_ok X G (c.t.d.fact 21 (f := .glo "NoDeed") rfl),
   He.glo_ok X G (c.t.d.fact 22 (f := .glo "BadCount") rfl),
   He.glo_ok X G (c.t.d.fact 23 (f := .glo "NoMend") rfl),
   He.glo_ok X G (c.t.d.fact 24 (f := .glo "Numbered") rfl),
   He.glo_ok X G (c.t.d.fact 25 (f := .glo "BadImage") rfl),
   He.glo_ok X G (c.t.d.fact 26 (f := .glo "BadGiven") rfl),
   He.glo_ok X G (c.t.d.fact 27 (f := .glo "BadList") rfl),
   He.glo_ok X G (c.t.d.fact 28 (f := .glo "BadRow") rfl),
   He.glo_ok X G (c.t.d.fact 29 (f := .glo "Part") rfl),
   He.glo_ok X G (c.t.d.fact 30 (f := .glo "Form") rfl),
   He.glo_ok X G (c.t.d.fact 31 (f := .glo "Near") rfl),
   He.glo_ok X G (c.t.d.fact 32 (f := .glo "Far") rfl),
   He.glo_ok X G (c.t.d.fact 33 (f := .glo "Book") rfl),
   He.free_ok X G (c.t.d.fact 34 (f := .free "ValueError") rfl),
   He.free_ok X G (c.t.d.fact 35 (f := .free "all") rfl),
   He.free_ok X G (c.t.d.fact 36 (f := .free "bool") rfl),
   He.free_ok X G (c.t.d.fact 37 (f := .free "enumerate") rfl),
   He.free_ok X G (c.t.d.fact 38 (f := .free "int") rfl),
   He.free_ok X G (c.t.d.fact 39 (f := .free "isinstance") rfl),
   He.free_ok X G (c.t.d.fact 40 (f := .free "len") rfl),
   He.free_ok X G (c.t.d.fact 41 (f := .free "list") rfl),
   He.free_ok X G (c.t.d.fact 42 (f := .free "max") rfl),
   He.free_ok X G (c.t.d.fact 43 (f := .free "min") rfl),
   He.free_ok X G (c.t.d.fact 44 (f := .free "range") rfl),
   He.free_ok X G (c.t.d.fact 45 (f := .free "str") rfl),
   He.free_ok X G (c.t.d.fact 46 (f := .free "tuple") rfl),
   He.free_ok X G (c.t.d.fact 47 (f := .free "zip") rfl),
   Bm.iof (He.int_ok X G (c.t.d.fact 48 (f := .int "LAST" 65535) rfl)),
   Bm.iof (He.int_ok X G (c.t.d.fact 49 (f := .int "BARE" 3) rfl)),
   Bm.iof (He.int_ok X G (c.t.d.fact 50 (f := .int "MOST_WORDS" 200) rfl)),
   He.cls_ok (c.t.d.fact 51 (f := .cls "Part") rfl),
   He.mkr_ok (c.t.d.fact 52 (f := .mkr "Part") rfl),
   He.meth_ok (c.t.d.fact 53 (f := .meth "Part" "holds") rfl),
   He.meth_ok (c.t.d.fact 54 (f := .meth "Part" "bits") rfl),
   He.meth_ok (c.t.d.fact 55 (f := .meth "Part" "taken") rfl),
   He.noat_ok (c.t.d.fact 56 (f := .noat "Part" "at") rfl),
   He.noat_ok (c.t.d.fact 57 (f := .noat "Part" "many") rfl),
   He.noat_ok (c.t.d.fact 58 (f := .noat "Part" "signs") rfl),
   He.cls_ok (c.t.d.fact 59 (f := .cls "Form") rfl),
   He.mkr_ok (c.t.d.fact 60 (f := .mkr "Form") rfl),
   He.meth_ok (c.t.d.fact 61 (f := .meth "Form" "need_parts") rfl),
   He.meth_ok (c.t.d.fact 62 (f := .meth "Form" "need") rfl),
   He.meth_ok (c.t.d.fact 63 (f := .meth "Form" "one_word") rfl),
   He.meth_ok (c.t.d.fact 64 (f := .meth "Form" "numbers") rfl),
   He.meth_ok (c.t.d.fact 65 (f := .meth "Form" "words") rfl),
   He.meth_ok (c.t.d.fact 66 (f := .meth "Form" "read") rfl),
   He.meth_ok (c.t.d.fact 67 (f := .meth "Form" "size") rfl),
   He.noat_ok (c.t.d.fact 68 (f := .noat "Form" "op") rfl),
   He.noat_ok (c.t.d.fact 69 (f := .noat "Form" "parts") rfl),
   He.cls_ok (c.t.d.fact 70 (f := .cls "Near") rfl),
   He.mkr_ok (c.t.d.fact 71 (f := .mkr "Near") rfl),
   He.meth_ok (c.t.d.fact 72 (f := .meth "Near" "need") rfl),
   He.meth_ok (c.t.d.fact 73 (f := .meth "Near" "words") rfl),
   He.meth_ok (c.t.d.fact 74 (f := .meth "Near" "read") rfl),
   He.meth_ok (c.t.d.fact 75 (f := .meth "Near" "need_parts") rfl),
   He.meth_ok (c.t.d.fact 76 (f := .meth "Near" "one_word") rfl),
   He.meth_ok (c.t.d.fact 77 (f := .meth "Near" "numbers") rfl),
   He.meth_ok (c.t.d.fact 78 (f := .meth "Near" "size") rfl),
   He.noat_ok (c.t.d.fact 79 (f := .noat "Near" "op") rfl),
   He.noat_ok (c.t.d.fact 80 (f := .noat "Near" "parts") rfl),
   He.cls_ok (c.t.d.fact 81 (f := .cls "Far") rfl),
   He.mkr_ok (c.t.d.fact 82 (f := .mkr "Far") rfl),
   He.meth_ok (c.t.d.fact 83 (f := .meth "Far" "need") rfl),
   He.meth_ok (c.t.d.fact 84 (f := .meth "Far" "words") rfl),
   He.meth_ok (c.t.d.fact 85 (f := .meth "Far" "read") rfl),
   He.meth_ok (c.t.d.fact 86 (f := .meth "Far" "size") rfl),
   He.meth_ok (c.t.d.fact 87 (f := .meth "Far" "need_parts") rfl),
   He.meth_ok (c.t.d.fact 88 (f := .meth "Far" "one_word") rfl),
   He.meth_ok (c.t.d.fact 89 (f := .meth "Far" "numbers") rfl),
   He.noat_ok (c.t.d.fact 90 (f := .noat "Far" "op") rfl),
   He.noat_ok (c.t.d.fact 91 (f := .noat "Far" "parts") rfl),
   He.cls_ok (c.t.d.fact 92 (f := .cls "Book") rfl),
   He.mkr_ok (c.t.d.fact 93 (f := .mkr "Book") rfl),
   He.meth_ok (c.t.d.fact 94 (f := .meth "Book" "packed") rfl),
   He.meth_ok (c.t.d.fact 95 (f := .meth "Book" "need") rfl),
   He.meth_ok (c.t.d.fact 96 (f := .meth "Book" "unpacked") rfl),
   He.noat_ok (c.t.d.fact 97 (f := .noat "Book" "forms") rfl),
   He.glo_ok X G (c.t.d.fact 98 (f := .glo "PLAIN") rfl),
   He.glo_ok X G (c.t.d.fact 99 (f := .glo "PAIRS") rfl),
   He.glo_ok X G (c.t.d.fact 100 (f := .glo "WHENS") rfl),
   He.glo_ok X G (c.t.d.fact 101 (f := .glo "NUMBERED") rfl),
   He.glo_ok X G (c.t.d.fact 102 (f := .glo "NAMES") rfl),
   fun H => He.tupB_ok (He.ba (He.ba (He.ba c.more).2).2).1 H,
   Bm.tdB_ok (He.ba (He.ba (He.ba (He.ba c.more).2).2).2).1,
   fun H => He.tupB_ok (He.ba (He.ba (He.ba (He.ba (He.ba c.more).2).2).2).2).1 H,
   Bm.tdB_ok (He.ba (He.ba (He.ba (He.ba (He.ba (He.ba c.more).2).2).2).2).2).1,
   fun H => He.tupB_ok (He.ba (He.ba (He.ba (He.ba (He.ba (He.ba (He.ba c.more).2).2).2).2).2).2).1 H,
   Bm.tdB_ok (He.ba (He.ba (He.ba (He.ba (He.ba (He.ba (He.ba (He.ba c.more).2).2).2).2).2).2).2).1,
   fun H => He.tupB_ok (He.ba (He.ba (He.ba (He.ba (He.ba (He.ba (He.ba (He.ba (He.ba c.more).2).2).2).2).2).2).2).2).1 H,
   Bm.tdB_ok (He.ba (He.ba (He.ba (He.ba (He.ba (He.ba (He.ba (He.ba (He.ba (He.ba c.more).2).2).2).2).2).2).2).2).2).1,
   fun H => He.tupB_ok (He.ba (He.ba (He.ba (He.ba (He.ba (He.ba (He.ba (He.ba (He.ba (He.ba (He.ba c.more).2).2).2).2).2).2).2).2).2).2).1 H,
   Bm.tdB_ok (He.ba (He.ba (He.ba (He.ba (He.ba (He.ba (He.ba (He.ba (He.ba (He.ba (He.ba c.more).2).2).2).2).2).2).2).2).2).2).2⟩
theorem defs_of {w : World} {K : PySem.W.Frag} {h : Heap} (c : He.SaysX fa fn [] tf xAll w h K) : Defs K :=
  ⟨c.t.d.def_ 0 (d := d_is_whole) rfl,
   c.t.d.def_ 1 (d := d_field) rfl,
   c.t.d.def_ 2 (d := d_signed) rfl,
   c.t.d.def_ 3 (d := d_Numbered_init) rfl,
   c.t.d.def_ 4 (d := d_BadRow_init) rfl,
   c.t.d.def_ 5 (d := d_Part_init) rfl,
   c.t.d.def_ 6 (d := d_Part_holds) rfl,
   c.t.d.def_ 7 (d := d_Part_bits) rfl,
   c.t.d.def_ 8 (d := d_Part_taken) rfl,
   c.t.d.def_ 9 (d := d_Form_init) rfl,
   c.t.d.def_ 10 (d := d_Form_need_parts) rfl,
   c.t.d.def_ 11 (d := d_Form_need) rfl,
   c.t.d.def_ 12 (d := d_Form_one_word) rfl,
   c.t.d.def_ 13 (d := d_Form_numbers) rfl,
   c.t.d.def_ 14 (d := d_Form_words) rfl,
   c.t.d.def_ 15 (d := d_Form_read) rfl,
   c.t.d.def_ 16 (d := d_Form_size) rfl,
   c.t.d.def_ 17 (d := d_Near_need) rfl,
   c.t.d.def_ 18 (d := d_Near_words) rfl,
   c.t.d.def_ 19 (d := d_Near_read) rfl,
   c.t.d.def_ 20 (d := d_Far_need) rfl,
   c.t.d.def_ 21 (d := d_Far_words) rfl,
   c.t.d.def_ 22 (d := d_Far_read) rfl,
   c.t.d.def_ 23 (d := d_Far_size) rfl,
   c.t.d.def_ 24 (d := d_Book_init) rfl,
   c.t.d.def_ 25 (d := d_Book_packed) rfl,
   c.t.d.def_ 26 (d := d_Book_need) rfl,
   c.t.d.def_ 27 (d := d_Book_unpacked) rfl,
   c.t.d.def_ 28 (d := d_numbers_of) rfl,
   c.t.d.def_ 29 (d := d_deed_of) rfl,
   c.t.d.def_ 30 (d := d_packed) rfl,
   c.t.d.def_ 31 (d := d_need_words) rfl,
   c.t.d.def_ 32 (d := d_unpacked) rfl,
   c.t.d.def_ 33 (d := d_law_start) rfl,
   c.t.d.def_ 34 (d := d_law_drawn) rfl,
   c.t.d.def_ 35 (d := d_law_same) rfl,
   c.t.d.def_ 36 (d := d_law_kind) rfl,
   c.t.d.def_ 37 (d := d_law_plain) rfl,
   c.t.d.def_ 38 (d := d_law_pairs) rfl,
   c.t.d.def_ 39 (d := d_law_times) rfl,
   c.t.d.def_ 40 (d := d_law_number) rfl,
   c.t.d.def_ 41 (d := d_law_deed) rfl,
   c.t.d.def_ 42 (d := d_law) rfl,
   c.t.d.def_ 43 (d := d_Near_init) rfl,
   c.t.d.def_ 44 (d := d_Near_need_parts) rfl,
   c.t.d.def_ 45 (d := d_Near_one_word) rfl,
   c.t.d.def_ 46 (d := d_Near_numbers) rfl,
   c.t.d.def_ 47 (d := d_Near_size) rfl,
   c.t.d.def_ 48 (d := d_Far_init) rfl,
   c.t.d.def_ 49 (d := d_Far_need_parts) rfl,
   c.t.d.def_ 50 (d := d_Far_one_word) rfl,
   c.t.d.def_ 51 (d := d_Far_numbers) rfl⟩
end Lk04


set_option Elab.async false
set_option linter.all false
set_option maxRecDepth 100000
set_option maxHeartbeats 4000000
namespace Bm
open PySem PySem.Spec PyProof.Rows L2
section
variable {P : Program} {w : World} {K : PySem.W.Frag} {mg : Str → Option Value} {base : Heap}
theorem fn_nothing {CX : CXT} {f : Addr} {fd : FuncData} {ps : List Str} : FnOk P w K mg base CX 0 f fd ps (fun _ _ _ _ => False) := ⟨fun _ _ _ _ h => h.elim, fun _ _ _ _ _ _ _ _ _ _ _ _ _ h => h.elim⟩
theorem Fn.mono {CX : CXT} {j k : Nat} {x : Str} {sp : Sp} {dvs : List V} (c : Fn P w K mg base CX j x sp dvs) (h : j ≤ k) : Fn P w K mg base CX k x sp dvs := by
  obtain ⟨f, fd, ps, ds, h1, h2, h3, h4, F⟩ := c.ex
  exact ⟨f, fd, ps, ds, h1, h2, h3, h4, F.mono h⟩
end
def rLenSq (K : PySem.W.Frag) : List V → Hp → VK → Prop := fun xs H Q => ∃ p ys, xs = [.ref p] ∧ (SqL K H p ys ∨ SqT K H p ys) ∧ Q (.int ys.length) H
def rListOf (K : PySem.W.Frag) : List V → Hp → VK → Prop := fun xs H Q => ∃ p ys, xs = [.ref p] ∧ (SqL K H p ys ∨ SqT K H p ys) ∧ ∀ l, H l = none → Q (.ref l) (upd H l (.lst ys))
def rTupleOf (K : PySem.W.Frag) : List V → Hp → VK → Prop := fun xs H Q => ∃ p ys, xs = [.ref p] ∧ ((SqL K H p ys ∧ ∀ l, H l = none → Q (.ref l) (upd H l (.tup ys))) ∨ (SqT K H p ys ∧ Q (.ref p) H))
def kdOf : PyData → String
  | .none => "NoneType"
  | .bool _ => "bool"
  | .int _ => "int"
  | .str _ => "str"
  | .list _ => "list"
  | .tuple _ => "tuple"
  | .dict _ => "dict"
/-- data of one flat thing -/
def flatD : PyData → Bool
  | .none | .bool _ | .int _ | .str _ => true
  | _ => false
end Bm
namespace L2
open PySem PySem.Spec PyProof.Rows Bm
/-! ### heaps -/
theorem Same.new {H : Hp} {p : Addr} {o : HO} (h : H p = none) : Same H (upd H p o) := fun a u e => by
  rw [upd_ne (ne_of_none e h)]
  exact e
theorem Same.mut {H H' : Hp} {p : Addr} {o : HO} (e : Same H H') (h : H p = none) : Same H (upd H' p o) := fun a u ha => by
  rw [upd_ne (ne_of_none ha h)]
  exact e a u ha
theorem Same.seqT {K : PySem.W.Frag} {H H' : Hp} {a : Addr} {xs : List V} (e : Same H H') (h : SqT K H a xs) : SqT K H' a xs := sqT_at (fun o q => e a o q) h
/-! ### data -/
mutual
theorem Dp.same {K : PySem.W.Frag} {H H' : Hp} (e : Same H H') : ∀ {d : PyData} {v : V}, Dp K H v d → Dp K H' v d
  | .none, _, h => by cases h; exact .non
  | .bool b, _, h => by cases h; exact .bl b
  | .int i, _, h => by cases h; exact .int i
  | .str x, _, h => by cases h; exact .str x
  | .list ds, _, h => by cases h with | lst h1 h2 => exact .lst (e.seq h1) (DpAll.same e h2)
  | .tuple ds, _, h => by cases h with | tup h1 h2 => exact .tup (Same.seqT e h1) (DpAll.same e h2)
  | .dict kvs, _, h => by cases h
theorem DpAll.same {K : PySem.W.Frag} {H H' : Hp} (e : Same H H') : ∀ {ds : List PyData} {vs : List V}, DpAll K H vs ds → DpAll K H' vs ds
  | [], _, h => by cases h; exact .nil
  | d :: ds, _, h => by cases h with | cons h1 h2 => exact .cons (Dp.same e h1) (DpAll.same e h2)
end
section
variable {K : PySem.W.Frag} {H H' : Hp}
theorem DpAll.length : ∀ {ds : List PyData} {vs : List V}, DpAll K H vs ds → vs.length = ds.length
  | [], _, h => by cases h; rfl
  | d :: ds, _, h => by cases h with | cons h1 h2 => simp [DpAll.length h2]
theorem DpAll.get : ∀ {ds : List PyData} {vs : List V} {i : Nat} {d : PyData}, DpAll K H vs ds → ds[i]? = some d → ∃ v, vs[i]? = some v ∧ Dp K H v d
  | [], _, _, _, h, e => by simp at e
  | d :: ds, _, 0, d', h, e => by
    cases h with
    | cons h1 h2 =>
      have e : d = d' := by simpa using e
      exact ⟨_, rfl, e ▸ h1⟩
  | d :: ds, _, i + 1, d', h, e => by
    cases h with
    | cons h1 h2 =>
      obtain ⟨v, a, b⟩ := DpAll.get (i := i) h2 (by simpa using e)
      exact ⟨v, by simpa using a, b⟩
theorem DpAll.mem : ∀ {ds : List PyData} {vs : List V} {v : V}, DpAll K H vs ds → v ∈ vs → ∃ d ∈ ds, Dp K H v d
  | [], _, _, h, e => by cases h; cases e
  | d :: ds, _, v, h, e => by
    cases h with
    | cons h1 h2 =>
      rcases List.mem_cons.mp e with rfl | e
      · exact ⟨d, List.mem_cons_self, h1⟩
      · obtain ⟨d', a, b⟩ := DpAll.mem h2 e
        exact ⟨d', List.mem_cons_of_mem _ a, b⟩
theorem DpAll.append : ∀ {ds es : List PyData} {vs us : List V}, DpAll K H vs ds → DpAll K H us es → DpAll K H (vs ++ us) (ds ++ es)
  | [], _, _, _, h, k => by cases h; exact k
  | d :: ds, _, _, _, h, k => by cases h with | cons h1 h2 => exact .cons h1 (DpAll.append h2 k)
theorem DpAll.ints : ∀ ns : List Int, DpAll K H (ns.map V.int) (ns.map PyData.int)
  | [] => .nil
  | n :: ns => .cons (.int n) (DpAll.ints ns)
theorem Dp.kd {v : V} {d : PyData} (h : Dp K H v d) : Kd K H v (kdOf d) := by
  cases h with
  | non => exact .non
  | bl b => exact .bl b
  | int i => exact .int i
  | str x => exact .str x
  | lst h1 h2 => exact .lst h1
  | tup h1 h2 => exact .tup h1
theorem Dp.flat_eq {v u : V} {d : PyData} (f : flatD d = true) (h : Dp K H v d) (h' : Dp K H u d) : v = u ∧ scal v v = true := by
  cases h with
  | non => cases h'; exact ⟨rfl, rfl⟩
  | bl b => cases h'; exact ⟨rfl, rfl⟩
  | int i => cases h'; exact ⟨rfl, rfl⟩
  | str x => cases h'; exact ⟨rfl, rfl⟩
  | lst h1 h2 => cases f
  | tup h1 h2 => cases f
end
end L2
namespace Bm
open PySem PySem.Spec PyProof.Rows L2
/-- how deep: 0 for flat things -/
def depD : Nat → PyData → Bool
  | 0, d => flatD d
  | n + 1, .list ds => decide (ds.length ≤ 100000) && ds.all (depD n)
  | n + 1, .tuple ds => decide (ds.length ≤ 100000) && ds.all (depD n)
  | _ + 1, .dict _ => false
  | _ + 1, _ => true
theorem depD_flat : ∀ {n : Nat} {d : PyData}, flatD d = true → depD n d = true
  | 0, _, h => h
  | n + 1, .list ds, h => by cases h
  | n + 1, .tuple ds, h => by cases h
  | n + 1, .dict ds, h => by cases h
  | n + 1, .none, _ => rfl
  | n + 1, .bool _, _ => rfl
  | n + 1, .int _, _ => rfl
  | n + 1, .str _, _ => rfl
theorem depD_succ : ∀ {n : Nat} {d : PyData}, depD n d = true → depD (n + 1) d = true
  | 0, d, h => depD_flat h
  | n + 1, .list ds, h => by
    obtain ⟨h1, h2⟩ := Bool.and_eq_true_iff.mp (show (decide (ds.length ≤ 100000) && ds.all (depD n)) = true from h)
    exact Bool.and_eq_true_iff.mpr ⟨h1, List.all_eq_true.mpr fun x hx => depD_succ (List.all_eq_true.mp h2 x hx)⟩
  | n + 1, .tuple ds, h => by
    obtain ⟨h1, h2⟩ := Bool.and_eq_true_iff.mp (show (decide (ds.length ≤ 100000) && ds.all (depD n)) = true from h)
    exact Bool.and_eq_true_iff.mpr ⟨h1, List.all_eq_true.mpr fun x hx => depD_succ (List.all_eq_true.mp h2 x hx)⟩
  | n + 1, .dict ds, h => by cases h
  | n + 1, .none, _ => rfl
  | n + 1, .bool _, _ => rfl
  | n + 1, .int _, _ => rfl
  | n + 1, .str _, _ => rfl
/-! ### _law_same of two equal things -/
def spSame (K : PySem.W.Frag) (n : Nat) : Sp := fun vs H Q _ => ∃ (v u : V) (d : PyData), vs = [v, u] ∧ Dp K H v d ∧ Dp K H u d ∧ depD n d = true ∧ ∀ H', Same H H' → Q (.bl true) H'
/-! ### the draws -/
/-- the state of the draws at st -/
def StAt (K : PySem.W.Frag) (st sc : Addr) (ns : List Int) (H : Hp) : Prop :=
  ∃ p m c : Int, H st = some (.lst [.ref sc, .int p, .int m, .int c]) ∧ 0 ≤ p ∧ 0 ≤ m ∧ m < 2147483647 ∧ 0 ≤ c ∧ SqL K H sc (ns.map V.int)
theorem script_upd {K : PySem.W.Frag} {st sc : Addr} {ns : List Int} {H : Hp} {xs : List V} {o : HO} (hS : SqL K H sc (ns.map V.int)) (h : H st = some (.lst (.ref sc :: xs))) : SqL K (upd H st o) sc (ns.map V.int) := by
  have key : ∀ u, H sc = some u → (u = .lst (ns.map V.int) ∨ ∃ ob, u = .frz ob (.lst (ns.map V.int))) → sc ≠ st := fun u hu hc z => by
    rw [z, h] at hu
    have e := Option.some.inj hu
    subst e
    rcases hc with hc | ⟨ob, hc⟩
    · injection hc with hc
      cases ns with
      | nil => cases hc
      | cons n ns =>
        rw [List.map_cons] at hc
        injection hc with h1 _
        cases h1
    · cases hc
  rcases hS with (h1 | ⟨ob, h1⟩) | h1
  · exact .inl (.inl (by rw [upd_ne (key _ h1 (.inl rfl))]; exact h1))
  · exact .inl (.inr ⟨ob, by rw [upd_ne (key _ h1 (.inr ⟨ob, rfl⟩))]; exact h1⟩)
  · exact .inr h1
/-- all is kept but the state of the draws, which is again one -/
structure Kept (K : PySem.W.Frag) (st sc : Addr) (ns : List Int) (H H' : Hp) : Prop where
  keep : ∀ a o, a ≠ st → H a = some o → H' a = some o
  st : StAt K st sc ns H'
def spDrawn (K : PySem.W.Frag) : Sp := fun vs H Q _ => ∃ (st sc : Addr) (ns : List Int) (m : Int), vs = [.ref st, .int m] ∧ StAt K st sc ns H ∧ 0 < m ∧ m < 1073741824 ∧ ∀ r H', 0 ≤ r → r < m → Kept K st sc ns H H' → Q (.int r) H'
def spStart (K : PySem.W.Frag) : Sp := fun vs H Q _ => ∃ (sc : Addr) (ns : List Int), vs = [.ref sc] ∧ SqL K H sc (ns.map V.int) ∧ ns.length ≤ 1000 ∧ ∀ st H', H st = none → Same H H' → StAt K st sc ns H' → Q (.ref st) H'
end Bm
namespace Bm
open PySem PySem.Spec PyProof.Rows L2
theorem Kd.any2 {K : PySem.W.Frag} {H : Hp} {v : V} {n c1 c2 : String} (k : Kd K H v n) (h1 : c1 ∈ ["int", "bool", "str", "list", "tuple"]) (h2 : c2 ∈ ["int", "bool", "str", "list", "tuple"]) : PySem.W.kitAny K (.type n) [.type c1, .type c2] = some (isiB n c1 || isiB n c2) := by
  refine kitAny_cons (k.kit h1) (fun h => ?_) (fun h => ?_)
  · rw [h, Bool.false_or]
    refine kitAny_cons (k.kit h2) (fun h => ?_) (fun h => h)
    rw [h]
    exact kitAny_nil
  · rw [h, Bool.true_or]
end Bm
namespace Bm
open PySem PySem.Spec PyProof.Rows L2
def seqOf : PyData → Option (List PyData)
  | .list ds => some ds
  | .tuple ds => some ds
  | _ => none
theorem dp_seq {K : PySem.W.Frag} {H : Hp} {v : V} {d : PyData} (h : Dp K H v d) : (∃ ds, seqOf d = some ds ∧ (isiB (kdOf d) "tuple" || isiB (kdOf d) "list") = true ∧ ∃ a xs, v = .ref a ∧ SqA K H a xs ∧ DpAll K H xs ds) ∨ ((isiB (kdOf d) "tuple" || isiB (kdOf d) "list") = false ∧ flatD d = true) := by
  cases h with
  | non => exact .inr ⟨by decide, rfl⟩
  | bl b => exact .inr ⟨show (isiB "bool" "tuple" || isiB "bool" "list") = false by decide, rfl⟩
  | int i => exact .inr ⟨show (isiB "int" "tuple" || isiB "int" "list") = false by decide, rfl⟩
  | str x => exact .inr ⟨show (isiB "str" "tuple" || isiB "str" "list") = false by decide, rfl⟩
  | lst h1 h2 => exact .inl ⟨_, rfl, show (isiB "list" "tuple" || isiB "list" "list") = true by decide, _, _, rfl, .inl h1, h2⟩
  | tup h1 h2 => exact .inl ⟨_, rfl, show (isiB "tuple" "tuple" || isiB "tuple" "list") = true by decide, _, _, rfl, .inr h1, h2⟩
theorem dep_seq {n : Nat} {d : PyData} {ds : List PyData} (h : depD n d = true) (e : seqOf d = some ds) : ds.length ≤ 100000 ∧ ∃ m, n = m + 1 ∧ ∀ x ∈ ds, depD m x = true := by
  cases n with
  | zero =>
    cases d with
    | list xs => cases h
    | tuple xs => cases h
    | _ => cases e
  | succ m =>
    cases d with
    | list xs =>
      cases e
      obtain ⟨h1, h2⟩ := Bool.and_eq_true_iff.mp (show (decide (ds.length ≤ 100000) && ds.all (depD m)) = true from h)
      exact ⟨of_decide_eq_true h1, m, rfl, fun x hx => List.all_eq_true.mp h2 x hx⟩
    | tuple xs =>
      cases e
      obtain ⟨h1, h2⟩ := Bool.and_eq_true_iff.mp (show (decide (ds.length ≤ 100000) && ds.all (depD m)) = true from h)
      exact ⟨of_decide_eq_true h1, m, rfl, fun x hx => List.all_eq_true.mp h2 x hx⟩
    | _ => cases e
theorem rIx_ok {K : PySem.W.Frag} {H : Hp} {a : Addr} {xs : List V} {i : Int} {v : V} {Q : VK} (h : SqA K H a xs) (e : atI xs i = some v) (q : Q v H) : rIx K (.ref a) (.int i) H Q := by
  rcases h with h | h
  · exact .inl ⟨a, xs, i, v, rfl, rfl, h, e, q⟩
  · exact .inr (.inl ⟨a, xs, i, v, rfl, rfl, h, e, q⟩)
theorem at0 {xs : List V} {j : Nat} {v : V} (h : xs[j]? = some v) : atI xs (0 + (j : Int)) = some v := by
  rw [Int.zero_add]
  exact atI_nat h
end Bm
namespace Bm
open PySem PySem.Spec PyProof.Rows L2
/-! ### err.f of the caught exception, its class any of ours -/
def tXfA (K : PySem.W.Frag) (a : Addr) (cls : Value) (d : Option Addr) (n : Str) (te : TE) : TE := fun σ H Q => te σ H fun x H1 => x = .ref a ∧ ∃ (C dd : Addr) (fs : List (Str × V)) (v : V), cls = .ref C ∧ XfC K C ∧ PySem.W.findIn K (.ref C) n = some none ∧ d = some dd ∧ H1 dd = some (.xd fs) ∧ fs.lookup n = some v ∧ Q v H1
theorem pe_xfA {X : Cx} {a : Addr} {oe : Obj} {cls : Value} {d : Option Addr} {pn : List (Addr × Obj)} {e : Expr} {te : TE} {pos : Pos} {n : Str}
    (hz : Zc cls d oe) (hf : ∃ vs, oe.data = .fields vs) (he : PE (X.suite a ((a, oe) :: pn)) e te) (hb : attributeBase e n X.env (eval e X.env) = eval e X.env := by rfl) :
    PE (X.suite a ((a, oe) :: pn)) (.Attribute e n pos) (tXfA X.K a cls d n te) := by
  refine ⟨fun pins s σ H Q I h => ?_⟩
  refine attr_of hb (thn (he.run pins s σ H _ I h) fun u s1 hh => ?_)
  obtain ⟨x, H1, I1, rx, ex, C, dd, fs, v, ec, T, hno, ed, ea, l, q⟩ := hh
  subst ex
  obtain rfl : u = Value.ref a := rx
  subst ec
  subst ed
  obtain ⟨ha, _⟩ := I1.pin (a, oe) (List.mem_append_left _ List.mem_cons_self)
  obtain ⟨vs, hd⟩ := hf
  have hx : ObjOk X.prog X.w H1 s1.heap dd (.xd fs) := I1.hok dd _ ea
  obtain ⟨mA, hns, hr⟩ := hx
  obtain ⟨od, ho, hl⟩ := lookIn_ns hns
  obtain ⟨u, hu, ru⟩ := RelO.some_of (v := v) (o := mA n) (by rw [← l]; exact hr n)
  have J : PySem.W.InstAt s1.heap a oe C (some od) := ⟨ha, hz.1, by unfold PySem.W.notCls; rw [hd] <;> rfl, by rw [hz.2]; exact ho⟩
  exact HandSPX.exc_get I1.kIn J T.ga T.gg T.exC (PySem.W.findObj_own T.hdC hno rfl (by rw [hl, hu])) (handed_of ru) ⟨v, H1, I1.tok _, ru, q⟩
/-! ### what _law_kind makes of what is refused -/
def KindE (K : PySem.W.Frag) (Q : VK) : XK := fun cls d H => ∃ x ∈ allX, cls = .ref (He.ga K x) ∧
  ((x ∈ plainX ∧ d = none ∧ ∀ H', Same H H' → Q (.str x) H') ∨
   (x ∈ numX ∧ ∃ dd fs v, d = some dd ∧ H dd = some (.xd fs) ∧ fs.lookup ("number" : Str) = some v ∧ ∀ p H', H p = none → Same H H' → H' p = some (.tup [.str x, v]) → Q (.ref p) H') ∨
   (x = "BadRow" ∧ ∃ dd fs v u, d = some dd ∧ H dd = some (.xd fs) ∧ fs.lookup ("row" : Str) = some v ∧ fs.lookup ("why" : Str) = some u ∧ ∀ p H', H p = none → Same H H' → H' p = some (.tup [.str x, v, u]) → Q (.ref p) H'))
def TKind (K : PySem.W.Frag) : (XK → Hp → VK → Prop) → Hp → VK → Prop := fun tl H Q => tl (KindE K Q) H Q
def kindsL (x : Str) : List V := allX.map fun y => V.bl (decide (x = y))
theorem kinds_count : ∀ x ∈ allX, (kindsL x).countP (fun z => eqV z (.bl true)) = 1 := by decide +kernel
theorem kinds_at : ∀ x ∈ allX, ∃ j, j < 9 ∧ (kindsL x)[j]? = some (.bl true) ∧ (allX.map V.str)[j]? = some (.str x) ∧ (∀ m, m < j → (kindsL x)[m]? = some (.bl false)) ∧ (x ∈ plainX → j < 5) ∧ (x ∈ numX → 5 ≤ j ∧ j < 8) ∧ (x = "BadRow" → j = 8) := by decide +kernel
theorem kinds_flat : ∀ x ∈ allX, (kindsL x).all flatV = true := by decide +kernel
end Bm
namespace Bm
open PySem PySem.Spec PyProof.Rows L2
theorem pe_bmK {X : Cx} (K : PySem.W.Frag) {T : String} {name : Str} {id : String} {r : V → List V → Hp → VK → Prop} {o e : Expr} {es : List Expr} {to : TE} {t : TA} {apos cpos : Pos} (pa : PlainAttrs T) (slot : Slot T name id) (hty : typeOf (.builtin id) = pure (.type "method_descriptor")) (hm : MtR X id r) (ho : PE X o to) (ha : PA X (e :: es) t) (hK : X.K = K := by rfl)
    (hbase : attributeBase o name X.env (eval o X.env) = eval o X.env := by rfl)
    (hfew : ((backTo cpos (starEach (e :: es) X.env)).all (fun x => !x.1) && (backToKw cpos (keywordEach [] X.env)).all (fun x => x.1.isSome)
      && decide ((e :: es).length + ([] : List Keyword).length + (if ([] : List Keyword).isEmpty then 0 else 1) < 30)) = true := by rfl)
    (hline : (apos.endLine == cpos.line) = true := by rfl) (hs : starEach (e :: es) X.env = (false, eval e X.env) :: starEach es X.env := by rfl) (hplain : (backTo cpos (starEach es X.env)).any (·.1) = false := by rfl) :
    PE X (.Call (.Attribute o name apos) (e :: es) [] cpos) (tBM K T r to t) := by
  subst hK
  exact pe_bm pa slot hty hm ho ha hbase hfew hline hs hplain
theorem pe_bm0K {X : Cx} (K : PySem.W.Frag) {T : String} {name : Str} {id : String} {r : V → List V → Hp → VK → Prop} {o : Expr} {to : TE} {apos cpos : Pos} (pa : PlainAttrs T) (slot : Slot T name id) (hty : typeOf (.builtin id) = pure (.type "method_descriptor")) (hm : MtR X id r) (ho : PE X o to) (hK : X.K = K := by rfl)
    (hbase : attributeBase o name X.env (eval o X.env) = eval o X.env := by rfl) (hline : (apos.endLine == cpos.line) = true := by rfl) : PE X (.Call (.Attribute o name apos) [] [] cpos) (tBM0 K T r to) := by
  subst hK
  exact pe_bm0 pa slot hty hm ho hbase hline
end Bm
namespace Bm
open PySem PySem.Spec PyProof.Rows L2
/-- what is raised is raised where there are so many slots -/
theorem takes_len {X : Cx} {W : WX} {n : Nat} (t : Takes X W) (hn : X.N.length = n) : Takes X (fun cls d σ H => σ.length = n → W cls d σ H) := fun u s' z => by
  obtain ⟨a, B, sI, pins, σ, H, cls, d, e, I, nb, up, sky, na, os, ag, w⟩ := z
  exact t u s' ⟨a, B, sI, pins, σ, H, cls, d, e, I, nb, up, sky, na, os, ag, w (I.len.trans hn)⟩
end Bm
namespace Bm
open PySem L2
def kb (x : Str) (ys : List Str) : List V := ys.map fun y => V.bl (decide (x = y))
end Bm
namespace Bm
open PySem PySem.Spec PyProof.Rows L2
/-! ### an error with its number -/
def spNumI (K : PySem.W.Frag) : Sp := fun vs H Q _ => ∃ (a C : Addr) (v : V), vs = [.ref a, v] ∧ OexC K C ∧ PySem.W.findIn K (.ref C) "number" = some none ∧ H a = some (exo a C none) ∧ ∀ dx, H dx = none → dx ≠ a → Q .non (upd (upd H dx (exd dx [("number", v)])) a (exo a C (some dx)))
/-- what a raise of it asks -/
theorem num_ok {K : PySem.W.Frag} {H : Hp} {C : Addr} {v : V} {Q : XK} (O : OexC K C) (hno : PySem.W.findIn K (.ref C) "number" = some none) (q : ∀ d, H d = none → Q (.ref C) (some d) (upd H d (.xd [("number", v)]))) :
    ([v] : List V).length ≤ 1000 ∧ ∀ a, H a = none → spNumI K (.ref a :: ([v] ++ [])) (upd H a (exo a C none)) (fun v' H2 => v' = .non ∧ ∃ (d : Addr) (fs : List (Str × V)), H2 a = some (exo a C (some d)) ∧ H2 d = some (exd d fs) ∧ H d = none ∧ Q (.ref C) (some d) (upd (del H2 a) d (.xd fs))) (fun _ _ _ => False) := by
  refine ⟨by show 1 ≤ 1000; decide, fun a na => ⟨a, C, v, rfl, O, hno, upd_same, fun dx ndx nea => ⟨rfl, dx, [("number", v)], upd_same, ?_, ?_, ?_⟩⟩⟩
  · rw [upd_ne nea, upd_same]
  · rw [upd_ne nea] at ndx
    exact ndx
  · rw [upd_ne nea] at ndx
    have e : upd (del (upd (upd (upd H a (exo a C none)) dx (exd dx [("number", v)])) a (exo a C (some dx))) a) dx (.xd [("number", v)]) = upd H dx (.xd [("number", v)]) := by
      funext b
      by_cases hb : b = dx
      · rw [hb, upd_same, upd_same]
      · rw [upd_ne hb, upd_ne hb]
        by_cases ha : b = a
        · rw [ha, del_same, na]
        · rw [del_ne ha, upd_ne ha, upd_ne hb, upd_ne ha]
    rw [e]
    exact q dx ndx
/-- raised: the error x with the number v, all else kept -/
def ExN (K : PySem.W.Frag) (x : Str) (v : V) (H : Hp) (E : XK) : Prop := ∀ d H', H d = none → Same H H' → H' d = some (.xd [("number", v)]) → E (.ref (He.ga K x)) (some d) H'
theorem ExN.go {K : PySem.W.Frag} {x : Str} {v : V} {H H1 : Hp} {E : XK} (e : ExN K x v H E) (s : Same H H1) {d : Addr} (h : H1 d = none) : E (.ref (He.ga K x)) (some d) (upd H1 d (.xd [("number", v)])) :=
  e d _ (s.free h) (s.trans (Same.new h)) upd_same
/-! ### words -/
def firstBad (m : Nat) : List V → Nat → Option Nat
  | [], _ => none
  | x :: r, i => if (decide (i = m) || !isWhole x 0 65535) = true then some i else firstBad m r (i + 1)
/-- need_words, need_block's loop: m the most -/
def spNeed (K : PySem.W.Frag) (m : Nat) : Sp := fun vs H Q E => ∃ (a : Addr) (xs : List V), vs = [.ref a] ∧ SqA K H a xs ∧ (∀ x ∈ xs, ∃ n, Kd K H x n) ∧
  (firstBad m xs 0 = none → ∀ H', Same H H' → Q .non H') ∧ (∀ i, firstBad m xs 0 = some i → ExN K "BadImage" (.int (i : Nat)) H E)
end Bm
namespace Bm
open PySem PySem.Spec PyProof.Rows L2
theorem pe_gc {X : Cx} {x : Str} {v : V} {pos : Pos} (hg : Gl X x) (h : ∃ u, X.mg x = some u ∧ RelV v u) (hd : (x == ("__debug__" : Str)) = false := by decide) : PE X (.Name x pos) (tC v) := by
  obtain ⟨u, hm, r⟩ := h
  exact pe_glob hg hm r hd
end Bm
namespace Bm
open PySem PySem.Spec PyProof.Rows L2
theorem drop_at {α : Type} {xs : List α} {i : Nat} {x : α} (h : xs[i]? = some x) : xs.drop i = x :: xs.drop (i + 1) := by
  obtain ⟨hi, e⟩ := List.getElem?_eq_some_iff.mp h
  rw [List.drop_eq_getElem_cons hi, e]
theorem fb_step {m : Nat} {xs : List V} {i : Nat} {x : V} (h : xs[i]? = some x) : firstBad m (xs.drop i) i = if (decide (i = m) || !isWhole x 0 65535) = true then some i else firstBad m (xs.drop (i + 1)) (i + 1) := by
  rw [drop_at h]
  rfl
theorem dec_intN {i m : Nat} : decide (V.int ((i : Nat) : Int) = V.int ((m : Nat) : Int)) = decide (i = m) := by
  rw [Bool.eq_iff_iff]
  simp
  omega
end Bm


set_option autoImplicit false
set_option Elab.async false
set_option linter.all false
set_option maxRecDepth 100000
set_option maxHeartbeats 4000000
namespace Lk04
open PySem PySem.Spec PyProof.Rows L2 Bm
local macro_rules
  | `(tactic| array_get_dec) => `(tactic| first | refine ⟨_, rfl, ?_⟩ | refine ⟨_, _, rfl, rfl, ?_⟩ | refine ⟨rfl, ?_⟩ | refine ⟨_, _, rfl, ?_⟩ | refine ⟨⟨_, rfl⟩, ?_⟩ | refine iteDT (by decide) ?_ | refine iteDF (by decide) ?_ | refine iteBT (by decide) ?_ | refine iteBF (by decide) ?_ | refine ⟨_, _, rfl, rfl, ⟨by decide, by decide⟩, ?_⟩)
local macro_rules
  | `(tactic| and_intros) => `(tactic| (repeat (array_get_dec)))
section
variable {P : Program} {w : World} {K : PySem.W.Frag} {mg : Str → Option Value} {base : Heap}
theorem sc_law_same : FnScope ["_law_found", "_law_due", "_law_alike", "_law_k"] ["_law_found", "_law_due"] (defScope s_law_same) := ⟨rfl, rfl, rfl, by decide +kernel, rfl, by decide +kernel, by decide +kernel⟩
structure CSame (P : Program) (w : World) (K : PySem.W.Frag) (mg : Str → Option Value) (base : Heap) (n : Nat) (sp : Sp) : Prop where
  law_same : Fn P w K mg base CX0 n "_law_same" sp []
theorem step_law_same (T : Txt K mg) {n : Nat} {sp : Sp} (C : CSame P w K mg base n sp) (hsp : ∀ m, n = m + 1 → sp = spSame K m) {f : Addr} {fd : FuncData} (F : FunD K "_law_same" "_law_same" (defArgs s_law_same) (defBody s_law_same) (defScope s_law_same) [] [] f fd) : FnOk P w K mg base CX0 (n + 1) f fd ["_law_found", "_law_due"] (spSame K n) := by
  refine F.ok sc_law_same (fun vs H Q E h => ?_) (fun cdv A outer s H vs Q E hr h => ?_)
  · obtain ⟨v, u, d, rfl, _⟩ := h
    rfl
  · obtain ⟨v, u, d, rfl, hv, hu, hd, q⟩ := h
    refine ⟨_, PSs.nox (pss_cons (ps_if (pt_val (pe_callB call_isiT rfl T.b_isinstance (by decide +kernel) (pa_cons (pv 1) (pa_cons (pe_tup (pa_cons (pe_bltn (v := .ty "tuple") rfl T.b_tuple (by decide +kernel) rfl) (pa_cons (pe_bltn (v := .ty "list") rfl T.b_list (by decide +kernel) rfl) pa_nil))) pa_nil)))) (pss_cons (ps_if (PW.pt (pw_or (pt_not (pt_val (pe_callB call_isiT rfl T.b_isinstance (by decide +kernel) (pa_cons (pv 0) (pa_cons (pe_tup (pa_cons (pe_bltn (v := .ty "tuple") rfl T.b_tuple (by decide +kernel) rfl) (pa_cons (pe_bltn (v := .ty "list") rfl T.b_list (by decide +kernel) rfl) pa_nil))) pa_nil))))) (pw_or1 (pt_cmpR op_ne (pe_callB call_isi rfl T.b_isinstance (by decide +kernel) (pa_cons (pv 0) (pa_cons (pe_bltn (v := .ty "list") rfl T.b_list (by decide +kernel) rfl) pa_nil))) (pe_callB call_isi rfl T.b_isinstance (by decide +kernel) (pa_cons (pv 1) (pa_cons (pe_bltn (v := .ty "list") rfl T.b_list (by decide +kernel) rfl) pa_nil))) (nomark _))))) (pss_one (ps_ret pe_bl)) (pss_nil))
  (pss_cons (ps_if (pt_cmpR op_ne (pe_callB call_len_seq rfl T.b_len (by decide +kernel) (pa_cons (pv 0) pa_nil)) (pe_callB call_len_seq rfl T.b_len (by decide +kernel) (pa_cons (pv 1) pa_nil)) (nomark _)) (pss_one (ps_ret pe_bl)) (pss_nil))
  (pss_one (ps_ret (pe_cmpR (op_eqD hr.units) (pe_lc (own := [("_law_k", 3)]) rfl sc_law_same.nd  (pi_range1 rfl T.b_range (pa_cons (pe_callB call_len_seq rfl T.b_len (by decide +kernel) (pa_cons (pv 1) pa_nil)) pa_nil)) (blkOk_by (own := [("_law_k", 3)]) (N := ["_law_found", "_law_due", "_law_alike", "_law_k"]) (sc := defScope s_law_same) (by decide +kernel)) (fun _ _ _ _ _ => (pg_name (i := 3) sc_law_same.nd rfl (Or.inl rfl))) (fun _ _ _ _ _ => pts_one (pt_not (pt_val (pe_f C.law_same hr (Nat.le_refl _) pass0 (pa_cons (pe_ix (r := rIx K) ix_seq (pv 0) (pv 3) (fun _ _ => rfl)) (pa_cons (pe_ix (r := rIx K) ix_seq (pv 1) (pv 3) (fun _ _ => rfl)) pa_nil)))))) (fun _ _ _ _ _ => (pv 3))) (pe_lst pa_nil) (nomark _)))))) (pss_nil))
  (pss_cons (ps_set (i := 2) sc_law_same.nd rfl (Or.inl rfl) (pe_and (pe_cmpR op_eq (pe_callB call_isi rfl T.b_isinstance (by decide +kernel) (pa_cons (pv 0) (pa_cons (pe_bltn (v := .ty "bool") rfl T.b_bool (by decide +kernel) rfl) pa_nil))) (pe_callB call_isi rfl T.b_isinstance (by decide +kernel) (pa_cons (pv 1) (pa_cons (pe_bltn (v := .ty "bool") rfl T.b_bool (by decide +kernel) rfl) pa_nil))) (nomark _)) (pe_one (pe_cmpR op_eq (pe_callB call_isi rfl T.b_isinstance (by decide +kernel) (pa_cons (pv 0) (pa_cons (pe_bltn (v := .ty "int") rfl T.b_int (by decide +kernel) rfl) pa_nil))) (pe_callB call_isi rfl T.b_isinstance (by decide +kernel) (pa_cons (pv 1) (pa_cons (pe_bltn (v := .ty "int") rfl T.b_int (by decide +kernel) rfl) pa_nil))) (nomark _)))))
  (pss_one (ps_ret (pe_and (pv 2) (pe_one (pe_cmpR op_eq (pv 0) (pv 1) (nomark _)))))))), ?_⟩
    have kv := hv.kd
    have ku := hu.kd
    -- isinstance(due, (tuple, list))
    refine ⟨_, rfl, (show 2 ≤ sizeLine by decide), fun p np => ?_⟩
    have s1 : Same H (upd H p (.tup [.ty "tuple", .ty "list"])) := Same.new np
    refine ⟨_, _, [.ty "tuple", .ty "list"], _, _, _, rfl, upd_same, .cons (.ty "tuple") (.cons (.ty "list") .nil), (ku.same s1).ty, (ku.same s1).any2 (by decide) (by decide), _, rfl, ?_⟩
    rcases dp_seq hu with ⟨ds, eds, hb, b, ys, rfl, hB, hys⟩ | ⟨hb, hfl⟩
    · refine iteBT hb ?_
      obtain ⟨ds', eds', _, a, xs, rfl, hA, hxs⟩ | ⟨hb', _⟩ := dp_seq hv
      rotate_left
      · rw [hb] at hb'
        cases hb'
      rw [eds] at eds'
      cases eds'
      obtain ⟨hdl, m, rfl, hdep⟩ := dep_seq hd eds
      obtain rfl := hsp m rfl
      have hlen : xs.length = ys.length := hxs.length.trans hys.length.symm
      -- not isinstance(found, (tuple, list)) or ..
      refine ⟨_, rfl, (show 2 ≤ sizeLine by decide), fun p2 np2 => ?_⟩
      have s2 : Same H (upd (upd H p (.tup [.ty "tuple", .ty "list"])) p2 (.tup [.ty "tuple", .ty "list"])) := s1.trans (Same.new np2)
      refine ⟨_, _, [.ty "tuple", .ty "list"], _, _, _, rfl, upd_same, .cons (.ty "tuple") (.cons (.ty "list") .nil), (kv.same s2).ty, (kv.same s2).any2 (by decide) (by decide), _, rfl, ?_⟩
      refine iteBF (by rw [hb]; rfl) ?_
      generalize upd (upd H p (.tup [.ty "tuple", .ty "list"])) p2 (.tup [.ty "tuple", .ty "list"]) = H2 at s2
      refine ⟨_, rfl, _, _, _, _, _, rfl, .ty "list", (kv.same s2).ty, (kv.same s2).kit (by decide), ?_⟩
      refine ⟨_, rfl, _, _, _, _, _, rfl, .ty "list", (ku.same s2).ty, (ku.same s2).kit (by decide), rfl, _, rfl, iteNS rfl ?_⟩
      refine ⟨_, rfl, a, xs, rfl, hA.same s2, _, rfl, b, ys, rfl, hB.same s2, rfl, _, rfl, iteNS (by rw [hlen]) ?_⟩
      have hyl : ys.length ≤ 100000 := by
        rw [hys.length]
        exact hdl
      refine ⟨_, rfl, b, ys, rfl, hB.same s2, _, rfl, by omega, by omega, fun D nD => ?_⟩
      refine lc_range (lo := 0) (n := ys.length) (fun i H' => Same H2 H' ∧ H' D = some (.lst [])) ⟨Same.new nD, upd_same⟩ ?_ ?_
      · rintro i H' hi ⟨s3, hD⟩
        have hix : i < xs.length := by omega
        have hid : i < ds.length := by rw [← hxs.length]; exact hix
        obtain ⟨x, ex, hx⟩ := hxs.get (List.getElem?_eq_getElem hid)
        obtain ⟨y, ey, hy⟩ := hys.get (List.getElem?_eq_getElem hid)
        refine ⟨rfl, ?_⟩
        refine ⟨_, rfl, _, rfl, rIx_ok (hA.same (s2.trans s3)) (at0 ex) ?_⟩
        refine ⟨_, rfl, _, rfl, rIx_ok (hB.same (s2.trans s3)) (at0 ey) ?_⟩
        refine ⟨x, y, _, rfl, hx.same (s2.trans s3), hy.same (s2.trans s3), hdep _ (List.getElem_mem hid), fun H5 s5 => ⟨_, rfl, iteF ⟨s3.trans s5, s5 _ _ hD⟩⟩⟩
      · rintro H' ⟨s3, hD⟩
        refine ⟨Nat.zero_le _, fun l hl => ⟨.list [], .list [], .lst (SqL.of ((Same.new hl) _ _ hD)) .nil, .lst (SqL.of upd_same) .nil, rfl, rfl, ?_⟩⟩
        exact q _ ((s2.trans s3).trans (Same.new hl))
    · refine iteBF hb ?_
      obtain ⟨rfl, hsc⟩ := hv.flat_eq hfl hu
      generalize upd H p (.tup [.ty "tuple", .ty "list"]) = H1 at s1
      refine ⟨_, rfl, _, _, _, _, _, rfl, .ty "bool", (kv.same s1).ty, (kv.same s1).kit (by decide), ?_⟩
      refine ⟨_, rfl, _, _, _, _, _, rfl, .ty "bool", (kv.same s1).ty, (kv.same s1).kit (by decide), rfl, _, rfl, iteDT rfl ?_⟩
      refine ⟨_, rfl, _, _, _, _, _, rfl, .ty "int", (kv.same s1).ty, (kv.same s1).kit (by decide), ?_⟩
      refine ⟨_, rfl, _, _, _, _, _, rfl, .ty "int", (kv.same s1).ty, (kv.same s1).kit (by decide), rfl, ?_⟩
      refine ⟨_, rfl, _, rfl, iteDT rfl ⟨_, rfl, _, rfl, hsc, ?_⟩⟩
      show Q (.bl (decide (v = v))) H1
      rw [decide_eq_true rfl]
      exact q _ s1
theorem ok_law_same (T : Txt K mg) {f : Addr} {fd : FuncData} (F : FunD K "_law_same" "_law_same" (defArgs s_law_same) (defBody s_law_same) (defScope s_law_same) [] [] f fd) (g : mg "_law_same" = some (.ref f)) : ∀ n, FnOk P w K mg base CX0 (n + 1) f fd ["_law_found", "_law_due"] (spSame K n)
  | 0 => step_law_same T ⟨.of F g (bnd0 (ps := ["_law_found", "_law_due"]) F fun _ _ _ _ _ _ us hl => match us, hl with | [_, _], _ => rfl) fn_nothing⟩ (fun m e => by cases e) F
  | n + 1 => step_law_same T ⟨.of F g (bnd0 F fun _ _ _ _ _ _ us hl => match us, hl with | [_, _], _ => rfl) (ok_law_same T F g n)⟩ (fun m e => by cases e; rfl) F
theorem fn_law_same (T : Txt K mg) (Df : Defs K) (n : Nat) : Fn P w K mg base CX0 (n + 1) "_law_same" (spSame K n) [] := by
  obtain ⟨fd, F⟩ := Df.law_same
  exact .of F T.g_law_same (bnd0 F fun _ _ _ _ _ _ us hl => match us, hl with | [_, _], _ => rfl) (ok_law_same T F T.g_law_same n)
end
end Lk04


set_option autoImplicit false
set_option Elab.async false
set_option linter.all false
set_option maxRecDepth 100000
set_option maxHeartbeats 4000000
namespace Lk04
open PySem PySem.Spec PyProof.Rows L2 Bm
local macro_rules
  | `(tactic| array_get_dec) => `(tactic| first | refine ⟨_, rfl, ?_⟩ | refine ⟨_, _, rfl, rfl, ?_⟩ | refine ⟨rfl, ?_⟩ | refine ⟨_, _, rfl, ?_⟩ | refine ⟨⟨_, rfl⟩, ?_⟩ | refine iteDT (by decide) ?_ | refine iteDF (by decide) ?_ | refine iteBT (by decide) ?_ | refine iteBF (by decide) ?_ | refine ⟨_, _, rfl, rfl, ⟨by decide, by decide⟩, ?_⟩)
local macro_rules
  | `(tactic| and_intros) => `(tactic| (repeat (array_get_dec)))
section
variable {P : Program} {w : World} {K : PySem.W.Frag} {mg : Str → Option Value} {base : Heap}
theorem sc_Numbered_init : FnScope ["self", "number"] ["self", "number"] (defScope s_Numbered_init) := ⟨rfl, rfl, rfl, by decide +kernel, rfl, by decide +kernel, by decide +kernel⟩
theorem ok_num_init (T : Txt K mg) {f : Addr} {fd : FuncData} (F : FunD K "__init__" "Numbered.__init__" (defArgs s_Numbered_init) (defBody s_Numbered_init) (defScope s_Numbered_init) [] [] f fd) : FnOk P w K mg base CX0 1 f fd ["self", "number"] (spNumI K) := by
  refine F.ok sc_Numbered_init (fun vs H Q E h => ?_) (fun cdv A outer s H vs Q E hr h => ?_)
  · obtain ⟨a, C, v, rfl, _⟩ := h
    rfl
  · obtain ⟨a, C, v, rfl, O, hno, ha, q⟩ := h
    refine ⟨_, PSs.nox (pss_cons (ps_expr (pe_minit rfl T.c_MillError (T.y.more (by simp)).2.1 (T.y.more (by simp)).2.2.1 (T.y.more (by simp)).2.2.2 (pa_cons (pv 0) (pa_cons pe_str pa_nil)))) (pss_one (ps_ost (pv 0) (pv 1)))), ?_⟩
    refine ⟨_, rfl, a, C, _, rfl, (show 1 ≤ 1000 by decide), O, ha, _, rfl, _, rfl, a, C, rfl, O, hno, .inl ⟨ha, fun dx ndx nea => q dx ndx nea⟩⟩
structure NumI (P : Program) (w : World) (K : PySem.W.Frag) (mg : Str → Option Value) (base : Heap) : Prop where
  ex : ∃ fd, FnOk P w K mg base CX0 1 (He.ma K (He.ga K "Numbered") "__init__") fd ["self", "number"] (spNumI K) ∧ L2.Binds K fd ["self", "number"] []
theorem num_I (T : Txt K mg) (Df : Defs K) : NumI P w K mg base := by
  obtain ⟨fd, F⟩ := Df.Numbered_init
  exact ⟨fd, ok_num_init T F, F.bindsN fun _ _ _ _ _ _ us hl => match us, hl with | [_, _], _ => rfl⟩
/-- raise x(e), x one of BadImage, BadGiven, BadList -/
theorem pmk_num {X : Cx} {j : Nat} {e : Expr} {ta : TA} {p pos : Pos} (T : Txt X.K X.mg) (x : Str) (hx : x ∈ (["BadImage", "BadGiven", "BadList"] : List Str)) (hm : X.mg x = some (.ref (He.ga X.K x))) (N : NumI X.prog X.w X.K X.mg X.base) (hr : Room j X.A) (hj : 2 ≤ j) (ha : PA X [e] ta) (hg : Gl X x := by rfl) (hdb : (x == ("__debug__" : Str)) = false := by decide)
    (he : starEach [e] X.env = (false, eval e X.env) :: starEach [] X.env := by rfl) (hpl : (backTo pos (starEach [] X.env)).any (·.1) = false := by rfl) :
    PMk X (.Call (.Name x p) [e] [] pos) (tMkO (He.ga X.K x) (spNumI X.K) [] ta) := by
  obtain ⟨fd, F, b⟩ := N.ex
  obtain ⟨O, iC, _, _⟩ := T.y.num x hx
  exact pmk_oex O iC (T.y.more (by simp)).1 F (hr.mono hj) b .nil pass0 hg hm ha hdb he hpl
end
end Lk04


set_option autoImplicit false
set_option Elab.async false
set_option linter.all false
set_option maxRecDepth 100000
set_option maxHeartbeats 4000000
namespace Lk04
open PySem PySem.Spec PyProof.Rows L2 Bm
local macro_rules
  | `(tactic| array_get_dec) => `(tactic| first | refine ⟨_, rfl, ?_⟩ | refine ⟨_, _, rfl, rfl, ?_⟩ | refine ⟨rfl, ?_⟩ | refine ⟨_, _, rfl, ?_⟩ | refine ⟨⟨_, rfl⟩, ?_⟩ | refine iteDT (by decide) ?_ | refine iteDF (by decide) ?_ | refine iteBT (by decide) ?_ | refine iteBF (by decide) ?_ | refine ⟨_, _, rfl, rfl, ⟨by decide, by decide⟩, ?_⟩)
local macro_rules
  | `(tactic| and_intros) => `(tactic| (repeat (array_get_dec)))
section
theorem sc_law_kind : FnScope ["_law_work", "e", "_law_kinds", "_law_words", "_law_at"] ["_law_work"] (defScope s_law_kind) := ⟨rfl, rfl, rfl, by decide +kernel, rfl, by decide +kernel, by decide +kernel⟩
set_option maxHeartbeats 8000000 in
theorem kind_gives {X : Cx} (T : Txt X.K X.mg) {q : Str} {g : Addr} {cdg : Value} : LamX.GivesTo X ["_law_work", "e", "_law_kinds", "_law_words", "_law_at"] "_law_kind" (defScope s_law_kind) g cdg (defBody s_law_kind) "_law_work" q (TKind X.K) := by
  intro f c' s H Q tl act hc h
  refine ⟨_, pss_one (ps_try_as (i := 1) (X := (cxOf C8.CX0 X.prog X.w X.K X.mg X.base ["_law_work", "e", "_law_kinds", "_law_words", "_law_at"] "_law_kind" (defScope s_law_kind) g cdg X.A X.stack s H C8.E0).nox) (c := .ref (He.ga X.K "MillError"))
      (tb := fun W D σ H => ∃ Ech : XK, (∀ cls d σ' H', Ech cls d H' → σ'.length = 5 → W cls d σ' H') ∧ σ[0]? = some (some (.ref f)) ∧ H c' = some (LamX.CodeO c' q) ∧ tl Ech H D.rt)
      rfl rfl sc_law_kind.nd rfl rfl ⟨rfl, by decide, .inl T.c_MillError⟩ L2.takes0 (fun W pn xe tk _ => ?_)
      (fun a oe cls d pn hz hf => pss_cons (ps_set (i := 2) sc_law_kind.nd rfl (Or.inl rfl) (pe_lst (pa_cons (pe_callB (call_isX hz hf) rfl T.b_isinstance (by decide +kernel) (pa_cons (pv 1) (pa_cons (pe_glob (v := .ref (He.ga X.K "BadDeed")) rfl T.c_BadDeed rfl) pa_nil))) (pa_cons (pe_callB (call_isX hz hf) rfl T.b_isinstance (by decide +kernel) (pa_cons (pv 1) (pa_cons (pe_glob (v := .ref (He.ga X.K "BadReach")) rfl T.c_BadReach rfl) pa_nil))) (pa_cons (pe_callB (call_isX hz hf) rfl T.b_isinstance (by decide +kernel) (pa_cons (pv 1) (pa_cons (pe_glob (v := .ref (He.ga X.K "NoDeed")) rfl T.c_NoDeed rfl) pa_nil))) (pa_cons (pe_callB (call_isX hz hf) rfl T.b_isinstance (by decide +kernel) (pa_cons (pv 1) (pa_cons (pe_glob (v := .ref (He.ga X.K "BadCount")) rfl T.c_BadCount rfl) pa_nil))) pa_nil))))))
  (pss_cons (ps_set (i := 2) sc_law_kind.nd rfl (Or.inl rfl) (pe_op op_cat (pv 2) (pe_lst (pa_cons (pe_callB (call_isX hz hf) rfl T.b_isinstance (by decide +kernel) (pa_cons (pv 1) (pa_cons (pe_glob (v := .ref (He.ga X.K "NoMend")) rfl T.c_NoMend rfl) pa_nil))) (pa_cons (pe_callB (call_isX hz hf) rfl T.b_isinstance (by decide +kernel) (pa_cons (pv 1) (pa_cons (pe_glob (v := .ref (He.ga X.K "BadImage")) rfl T.c_BadImage rfl) pa_nil))) (pa_cons (pe_callB (call_isX hz hf) rfl T.b_isinstance (by decide +kernel) (pa_cons (pv 1) (pa_cons (pe_glob (v := .ref (He.ga X.K "BadGiven")) rfl T.c_BadGiven rfl) pa_nil))) pa_nil))))))
  (pss_cons (ps_set (i := 2) sc_law_kind.nd rfl (Or.inl rfl) (pe_op op_cat (pv 2) (pe_lst (pa_cons (pe_callB (call_isX hz hf) rfl T.b_isinstance (by decide +kernel) (pa_cons (pv 1) (pa_cons (pe_glob (v := .ref (He.ga X.K "BadList")) rfl T.c_BadList rfl) pa_nil))) (pa_cons (pe_callB (call_isX hz hf) rfl T.b_isinstance (by decide +kernel) (pa_cons (pv 1) (pa_cons (pe_glob (v := .ref (He.ga X.K "BadRow")) rfl T.c_BadRow rfl) pa_nil))) pa_nil)))))
  (pss_cons (ps_set (i := 3) sc_law_kind.nd rfl (Or.inl rfl) (pe_lst (pa_cons pe_str (pa_cons pe_str (pa_cons pe_str (pa_cons pe_str (pa_cons pe_str (pa_cons pe_str (pa_cons pe_str (pa_cons pe_str (pa_cons pe_str pa_nil)))))))))))
  (pss_cons (ps_if (PW.pt (pw_or (pt_cmpR op_ne (pe_bmK X.K (r := rCntF X.K) PySem.F.plainAttrs_list PySem.F.slot_list_count PySem.F.type_list_count mt_lcountF (pv 2) (pa_cons pe_bl pa_nil)) pe_int (nomark _)) (pw_or1 (pt_not (pt_val (pe_callB (call_isX hz hf) rfl T.b_isinstance (by decide +kernel) (pa_cons (pv 1) (pa_cons (pe_bltn (v := .ty "ValueError") rfl T.b_ValueError (by decide +kernel) rfl) pa_nil)))))))) (pss_one (ps_ret pe_str)) (pss_nil))
  (pss_cons (ps_set (i := 4) sc_law_kind.nd rfl (Or.inl rfl) (pe_bmK X.K (r := rIndex X.K) PySem.F.plainAttrs_list PySem.F.slot_list_index PySem.F.type_list_index mt_index (pv 2) (pa_cons pe_bl pa_nil)))
  (pss_cons (ps_if (pt_cmpR op_lt (pv 4) pe_int (nomark _)) (pss_one (ps_ret (pe_ix (r := rIxL X.K) ix_list (pv 3) (pv 4) (fun _ _ => rfl)))) (pss_nil))
  (pss_one (ps_ret (pe_ifExp (pt_cmpR op_lt (pv 4) pe_int (nomark _)) (pe_tup (pa_cons (pe_ix (r := rIxL X.K) ix_list (pv 3) (pv 4) (fun _ _ => rfl)) (pa_cons (pe_xfA hz hf (pv 1)) pa_nil))) (pe_tup (pa_cons (pe_ix (r := rIxL X.K) ix_list (pv 3) (pv 4) (fun _ _ => rfl)) (pa_cons (pe_xfA hz hf (pv 1)) (pa_cons (pe_xfA hz hf (pv 1)) pa_nil))))))))))))))), ?_⟩
  · refine ⟨fun pins s' σ H' D I h' => ?_⟩
    obtain ⟨Ech, hW, h1, h2, h3⟩ := h'
    exact (pss_one (ps_ret (act _ pn xe Ech _ _ (takes_len tk rfl) hW))).run pins s' σ H' D I ⟨h1, h2, h3⟩
  · refine ⟨KindE X.K Q, fun cls d σ' H' hk hl => ?_, rfl, hc, h⟩
    obtain ⟨a0, a1, a2, a3, a4, rfl⟩ : ∃ a0 a1 a2 a3 a4, σ' = [a0, a1, a2, a3, a4] := by
      match σ', hl with
      | [a0, a1, a2, a3, a4], _ => exact ⟨a0, a1, a2, a3, a4, rfl⟩
    obtain ⟨x, hx, rfl, hk⟩ := hk
    refine ⟨true, T.x.exm x hx, fun _ a na => ?_, fun z => by cases z⟩
    have hd : ∀ H'', Same H' H'' → (d = none ∨ ∃ dd fs, d = some dd ∧ H'' dd = some (.xd fs)) := by
      rcases hk with ⟨_, e, _⟩ | ⟨_, dd, fs, v, e, h1, _⟩ | ⟨_, dd, fs, v, u, e, h1, _⟩
      · exact fun _ _ => .inl e
      · exact fun H'' s1 => .inr ⟨dd, fs, e, s1 _ _ h1⟩
      · exact fun H'' s1 => .inr ⟨dd, fs, e, s1 _ _ h1⟩
    have X1 := T.x.exc x hx
    have r0 := Same.refl H'
    have I : ∀ (y : Str) (hy : y ∈ allX), PySem.W.kitOne X.K (.ref (He.ga X.K x)) (.ref (He.ga X.K y)) = some (decide (x = y)) := fun y hy => T.x.kit x hx y hy
    -- kinds = [..4]
    refine ⟨_, rfl, _, _, _, _, rfl, X1, hd _ r0, rfl, (fun u h => h), I "BadDeed" (by decide), _, rfl, _, _, _, _, rfl, X1, hd _ r0, rfl, (fun u h => h), I "BadReach" (by decide), _, rfl, _, _, _, _, rfl, X1, hd _ r0, rfl, (fun u h => h), I "NoDeed" (by decide), _, rfl, _, _, _, _, rfl, X1, hd _ r0, rfl, (fun u h => h), I "BadCount" (by decide), (show 4 ≤ sizeLine by decide), fun l1 n1 => ?_⟩
    have s1 : Same H' (upd H' l1 (.lst (kb x ["BadDeed", "BadReach", "NoDeed", "BadCount"]))) := Same.new n1
    have h1 : (upd H' l1 (.lst (kb x ["BadDeed", "BadReach", "NoDeed", "BadCount"]))) l1 = some (.lst (kb x ["BadDeed", "BadReach", "NoDeed", "BadCount"])) := upd_same
    show tSeq _ _ _ _ (upd H' l1 (.lst (kb x ["BadDeed", "BadReach", "NoDeed", "BadCount"])))
    generalize upd H' l1 (.lst (kb x ["BadDeed", "BadReach", "NoDeed", "BadCount"])) = H1 at s1 h1
    -- kinds = kinds + [..3]
    refine ⟨_, rfl, _, rfl, _, _, _, _, rfl, X1, hd _ s1, rfl, (fun u h => h), I "NoMend" (by decide), _, rfl, _, _, _, _, rfl, X1, hd _ s1, rfl, (fun u h => h), I "BadImage" (by decide), _, rfl, _, _, _, _, rfl, X1, hd _ s1, rfl, (fun u h => h), I "BadGiven" (by decide), (show 3 ≤ sizeLine by decide), fun l2 n2 => ?_⟩
    refine ⟨l1, l2, kb x ["BadDeed", "BadReach", "NoDeed", "BadCount"], kb x ["NoMend", "BadImage", "BadGiven"], rfl, rfl, (Same.new n2) _ _ h1, upd_same, (show 4 + 3 ≤ sizeLine by decide), fun l3 n3 => ?_⟩
    have s3 : Same H' (upd (upd H1 l2 (.lst (kb x ["NoMend", "BadImage", "BadGiven"]))) l3 (.lst (kb x ["BadDeed", "BadReach", "NoDeed", "BadCount", "NoMend", "BadImage", "BadGiven"]))) := (s1.trans (Same.new n2)).trans (Same.new n3)
    have h3 : (upd (upd H1 l2 (.lst (kb x ["NoMend", "BadImage", "BadGiven"]))) l3 (.lst (kb x ["BadDeed", "BadReach", "NoDeed", "BadCount", "NoMend", "BadImage", "BadGiven"]))) l3 = some (.lst (kb x ["BadDeed", "BadReach", "NoDeed", "BadCount", "NoMend", "BadImage", "BadGiven"])) := upd_same
    show tSeq _ _ _ _ (upd (upd H1 l2 (.lst (kb x ["NoMend", "BadImage", "BadGiven"]))) l3 (.lst (kb x ["BadDeed", "BadReach", "NoDeed", "BadCount", "NoMend", "BadImage", "BadGiven"])))
    generalize upd (upd H1 l2 (.lst (kb x ["NoMend", "BadImage", "BadGiven"]))) l3 (.lst (kb x ["BadDeed", "BadReach", "NoDeed", "BadCount", "NoMend", "BadImage", "BadGiven"])) = H3 at s3 h3
    -- kinds = kinds + [..2]
    refine ⟨_, rfl, _, rfl, _, _, _, _, rfl, X1, hd _ s3, rfl, (fun u h => h), I "BadList" (by decide), _, rfl, _, _, _, _, rfl, X1, hd _ s3, rfl, (fun u h => h), I "BadRow" (by decide), (show 2 ≤ sizeLine by decide), fun l4 n4 => ?_⟩
    refine ⟨l3, l4, kb x ["BadDeed", "BadReach", "NoDeed", "BadCount", "NoMend", "BadImage", "BadGiven"], kb x ["BadList", "BadRow"], rfl, rfl, (Same.new n4) _ _ h3, upd_same, (show 7 + 2 ≤ sizeLine by decide), fun l5 n5 => ?_⟩
    have s5 : Same H' (upd (upd H3 l4 (.lst (kb x ["BadList", "BadRow"]))) l5 (.lst (kindsL x))) := (s3.trans (Same.new n4)).trans (Same.new n5)
    have h5 : (upd (upd H3 l4 (.lst (kb x ["BadList", "BadRow"]))) l5 (.lst (kindsL x))) l5 = some (.lst (kindsL x)) := upd_same
    show tSeq _ _ _ _ (upd (upd H3 l4 (.lst (kb x ["BadList", "BadRow"]))) l5 (.lst (kindsL x)))
    generalize upd (upd H3 l4 (.lst (kb x ["BadList", "BadRow"]))) l5 (.lst (kindsL x)) = H5 at s5 h5
    -- words = [..9]
    refine ⟨(show 9 ≤ sizeLine by decide), fun l6 n6 => ?_⟩
    have s6 : Same H' (upd H5 l6 (.lst (allX.map V.str))) := s5.trans (Same.new n6)
    have h6 : (upd H5 l6 (.lst (allX.map V.str))) l6 = some (.lst (allX.map V.str)) := upd_same
    have h5' : (upd H5 l6 (.lst (allX.map V.str))) l5 = some (.lst (kindsL x)) := (Same.new n6) _ _ h5
    show tSeq _ _ _ _ (upd H5 l6 (.lst (allX.map V.str)))
    generalize upd H5 l6 (.lst (allX.map V.str)) = H6 at s6 h6 h5'
    -- if kinds.count(True) != 1 or not isinstance(e, ValueError)
    refine ⟨_, rfl, .inl ⟨rfl, _, SqL.of h5'⟩, l5, _, _, rfl, rfl, SqL.of h5', rfl, kinds_flat x hx, rfl, _, rfl, iteNS (by rw [kinds_count x hx]; rfl) ?_⟩
    refine ⟨_, rfl, _, .ty "ValueError", _, _, rfl, X1, hd _ s6, rfl, (fun u h => h), T.x.kitV x hx, _, rfl, iteF ?_⟩
    -- at = kinds.index(True)
    obtain ⟨j, hj, hj1, hj2, hj3, hp, hn, hw⟩ := kinds_at x hx
    refine ⟨_, rfl, .inl ⟨rfl, _, SqL.of h5'⟩, l5, _, _, j, .bl true, rfl, rfl, SqL.of h5', rfl, kinds_flat x hx, hj1, rfl, (fun m z hm hz => by rw [hj3 m hm] at hz; cases hz; rfl), ?_⟩
    have hat : atI (allX.map V.str) (j : Int) = some (.str x) := atI_nat hj2
    refine ⟨_, rfl, _, _, rfl, rfl, _, rfl, ?_⟩
    rcases hk with ⟨hxp, _, q⟩ | ⟨hxn, dd, fs, v, rfl, hfs, hv, q⟩ | ⟨hxr, dd, fs, v, u, rfl, hfs, hv, hu, q⟩
    · have h5 := hp hxp
      refine iteDT (by omega) ⟨_, rfl, _, rfl, l6, _, _, _, rfl, rfl, SqL.of h6, hat, q _ s6⟩
    · have h5 := hn hxn
      refine iteDF (by omega) ⟨_, rfl, _, _, rfl, rfl, _, rfl, iteDT (by omega) ?_⟩
      obtain ⟨_, _, hno, hX⟩ := T.x.num x hxn
      refine ⟨_, rfl, _, rfl, l6, _, _, _, rfl, rfl, SqL.of h6, hat, _, rfl, rfl, _, dd, fs, v, rfl, hX, hno, rfl, s6 _ _ hfs, hv, (show 2 ≤ sizeLine by decide), fun p np => ?_⟩
      exact q p _ (s6.free np) (s6.trans (Same.new np)) upd_same
    · have h5 := hw hxr
      subst hxr
      refine iteDF (by omega) ⟨_, rfl, _, _, rfl, rfl, _, rfl, iteDF (by omega) ?_⟩
      refine ⟨_, rfl, _, rfl, l6, _, _, _, rfl, rfl, SqL.of h6, hat, _, rfl, rfl, _, dd, fs, v, rfl, T.x.rowX, T.x.rowR, rfl, s6 _ _ hfs, hv, _, rfl, rfl, _, dd, fs, u, rfl, T.x.rowX, T.x.rowW, rfl, s6 _ _ hfs, hu, (show 3 ≤ sizeLine by decide), fun p np => ?_⟩
      exact q p _ (s6.free np) (s6.trans (Same.new np)) upd_same
end
end Lk04


set_option Elab.async false
set_option linter.all false
set_option maxRecDepth 100000
set_option maxHeartbeats 4000000
set_option autoImplicit false
namespace Fv
open PySem PySem.Spec PyProof.Rows L2 Bm
def tIfT (t ta tb : TT) : TT := fun σ H Q => t σ H fun c H1 => if c = true then ta σ H1 Q else tb σ H1 Q
theorem pt_ifExp {X : Cx} {c a b : Expr} {pos : Pos} {tA ta tb : TT} (hc : PT X c tA) (ha : PT X a ta) (hb : PT X b tb) : PT X (.IfExp c a b pos) (tIfT tA ta tb) := by
  refine ⟨fun pins s σ H Q I h => ?_⟩
  show wpAny (model X.prog X.w) X.A (do if ← isTrue c X.env (eval c X.env) then isTrue a X.env (eval a X.env) else isTrue b X.env (eval b X.env)) (TP X pins σ Q) X.xe s
  refine wpAny_bind (wpAny_mono (hc.run pins s σ H _ I h) (fun d s1 z => ?_) fun _ _ x => x)
  obtain ⟨H1, I1, q1⟩ := z
  cases d with
  | true => exact ha.run pins s1 σ H1 Q I1 q1
  | false => exact hb.run pins s1 σ H1 Q I1 q1
def rSlAny (K : PySem.W.Frag) : V → Option Int → Option Int → Hp → VK → Prop := fun x lo hi H Q => rSlL K x lo hi H Q ∨ rSlA K x lo hi H Q
theorem sl_any {X : Cx} : SlR X (rSlAny X.K) := sl_list.or sl_tupA
theorem okC {P : Program} {w : World} {K : PySem.W.Frag} {mg : Str → Option Value} {base : Heap} {CX : CXT} {x qual : Str} {params : Arguments} {body : List Stmt} {scope : Scope} {dvs : List V} {kws : List (Str × V)} {fd : FuncData} {N ps : List Str} {k : Nat} {sp : Sp} (p : He.Defn)
    (F : FunD K x qual params body scope dvs kws (He.fAd K p) fd) (S : FnScope N ps scope) (len : ∀ vs H Q E, sp vs H Q E → vs.length = ps.length)
    (hbody : ∀ (A : Around) (outer : List Env) (s : Shared) (H : Hp) (vs : List V) (Q : VK) (E : XK), Room k (A.deeper (envOfC qual scope s.heap.objs.size (He.fAd K p) (.ref (He.codeOf K p)))) → sp vs H Q E →
      ∃ t, PSs (cxOf CX P w K mg base N qual scope (He.fAd K p) (.ref (He.codeOf K p)) A outer s H E) body t ∧ t { nx := fun _ H' => Q .non H', rt := Q } (start N vs) H) : FnOk P w K mg base CX (k + 1) (He.fAd K p) fd ps sp := by
  obtain ⟨oc, od, dV, kV, doc, pm, an, cdv, ct, osl, rfl, lk, hcd, _, _⟩ := F.ex
  obtain ⟨c, rfl⟩ := He.codeIn_ref hcd
  have e : He.codeOf K p = c := He.codeOf_eq lk rfl
  rw [e] at hbody
  exact fn_of lk hcd S len hbody
end Fv


set_option Elab.async false
set_option linter.all false
set_option maxRecDepth 100000
set_option maxHeartbeats 4000000
set_option autoImplicit false
/-! dicts with None or ints as keys: which keys -/
namespace Fv
open PySem PySem.Spec PyProof.Rows L2 Bm
def nHash : Option Int → Int
  | none => reduceHash 0xFCA86420
  | some i => hashInt i
abbrev nKey (k : Option Int) : Option Key := k.map Sum.inl
def NoneD (p : Addr) (ks : List (Option Int)) : Heap → Prop := fun h => (p == sysModules) = false ∧ ∃ o es ep, h.get? p = some o ∧ o.ExactDict ∧ o.data = .dict es ep ∧ (∀ e ∈ es, ∃ k : Option Int, nkIs (nKey k) e.key = true ∧ e.hash = nHash k) ∧ ∀ k : Option Int, (findBy nkIs es (nKey k)).isSome = decide (k ∈ ks)
section
variable {P : Program} {w : World} {h : Heap} {p : Addr} {ks : List (Option Int)}
theorem NoneD.map (n : NoneD p ks h) : (p == sysModules) = false ∧ ∃ f, h.MapOf (noneKind P w) p f ∧ ∀ k : Option Int, (f (nKey k)).isSome = decide (k ∈ ks) := by
  obtain ⟨hm, o, es, ep, h1, h2, h3, h4, h5⟩ := n
  refine ⟨hm, fun k => findBy nkIs es k, ⟨o, es, ep, h1, h2, h3, fun e m => ?_, fun k => rfl⟩, h5⟩
  obtain ⟨k, a, b⟩ := h4 e m
  refine ⟨nKey k, a, b.trans ?_⟩
  cases k <;> rfl
theorem NoneD.stays {h1 h2 : Heap} (n : NoneD p ks h1) (k : ∀ o, h1.get? p = some o → h2.get? p = some o) : NoneD p ks h2 := by
  obtain ⟨hm, o, es, ep, a1, a2, a3, a4, a5⟩ := n
  exact ⟨hm, o, es, ep, k _ a1, a2, a3, a4, a5⟩
theorem NoneD.there (n : NoneD p ks h) : ∃ o, h.get? p = some o := by
  obtain ⟨_, o, _, _, a1, _⟩ := n
  exact ⟨o, a1⟩
theorem pairs_mem {K : Type} [DecidableEq K] {knd : KeyKind P w K} {es : List DictEntry} {kvs : List (K × Value)} (pp : Pairs knd es kvs) : ∀ e ∈ es, ∃ kv ∈ kvs, knd.is kv.1 e.key = true := by
  induction pp with
  | nil => exact fun e m => nomatch m
  | cons a b t ih =>
    intro e m
    rcases List.mem_cons.mp m with rfl | m
    · exact ⟨_, List.mem_cons_self, a⟩
    · obtain ⟨kv, m', q⟩ := ih e m
      exact ⟨kv, List.mem_cons_of_mem _ m', q⟩
theorem mem_merged {K : Type} [DecidableEq K] (prs : List (K × Value)) (k : K) : k ∈ (merged [] prs).map (·.1) ↔ k ∈ prs.map (·.1) := by
  rw [← valueAt_isSome, valueAt_merged]
  have : (valueAt prs.reverse k).isSome = true ↔ k ∈ prs.map (·.1) := by
    rw [valueAt_isSome]
    simp
  rw [← this]
  cases valueAt prs.reverse k with
  | some v => simp
  | none => simp [valueAt_nil]
theorem NoneD.of {prs : List (Option Key × Value)} (hm : (p == sysModules) = false) (d : h.DictOf (noneKind P w) p (merged [] prs)) (hk : prs.map (·.1) = ks.map nKey) : NoneD p ks h := by
  obtain ⟨f, hf⟩ : ∃ f, h.MapOf (noneKind P w) p f ∧ f = valueAt (merged [] prs) := ⟨_, d.mapOf, rfl⟩
  obtain ⟨o, es, ep, h1, h2, h3, h4, h5, h6⟩ := d
  refine ⟨hm, o, es, ep, h1, h2, h3, fun e m => ?_, fun k => ?_⟩
  · obtain ⟨kv, mk, q⟩ := pairs_mem h5 e (Array.mem_toList_iff.mpr m)
    obtain ⟨k, hk1, hk2⟩ := h4 e m
    have : k = kv.1 := (noneKind P w).inj _ _ _ hk1 q
    subst this
    have mm : kv.1 ∈ (merged [] prs).map (·.1) := List.mem_map_of_mem mk
    rw [mem_merged, hk] at mm
    obtain ⟨j, _, ej⟩ := List.mem_map.mp mm
    rw [← ej] at hk1 hk2
    refine ⟨j, hk1, hk2.trans ?_⟩
    cases j <;> rfl
  · obtain ⟨o', es', ep', g1, g2, g3, g4, g5⟩ := hf.1
    rw [h1] at g1
    cases g1
    rw [h3] at g3
    cases g3
    have e5 : findBy nkIs es (nKey k) = valueAt (merged [] prs) (nKey k) := (g5 (nKey k)).trans (by rw [hf.2])
    rw [e5]
    have : (valueAt (merged [] prs) (nKey k)).isSome = true ↔ k ∈ ks := by
      rw [valueAt_isSome, mem_merged, hk, List.mem_map]
      constructor
      · rintro ⟨j, mj, ej⟩
        have : j = k := by
          cases j <;> cases k <;> simp [nKey] at ej <;> first | rfl | rw [ej]
        exact this ▸ mj
      · exact fun m => ⟨k, m, rfl⟩
    by_cases c : k ∈ ks
    · rw [this.mpr c, decide_eq_true c]
    · rw [decide_eq_false c]
      cases q : (valueAt (merged [] prs) (nKey k)).isSome with
      | false => rfl
      | true => exact absurd (this.mp q) c
end
end Fv


set_option Elab.async false
set_option linter.all false
set_option maxRecDepth 100000
set_option maxHeartbeats 4000000
set_option autoImplicit false
/-! dicts whose keys are flat tuples of numbers, texts, bools, None; what their values are is not told -/
namespace Fv
open PySem PySem.Spec PyProof.Rows L2 Bm
def kN : V → NestedKey
  | .bl b => .num (if b = true then 1 else 0)
  | .int i => .num i
  | .str x => .text x
  | _ => .none
def flatV : V → Bool
  | .non => true
  | .bl _ => true
  | .int _ => true
  | .str _ => true
  | _ => false
def TupD (w : World) (p : Addr) (xs : List (NestedKey × Addr)) : Heap → Prop := fun h => (p == sysModules) = false ∧ ∃ (ys : List (NestedKey × Addr × Value)) (o : Obj) (es : Array DictEntry) (ep : Nat), ys.map (fun y => (y.1, y.2.1)) = xs ∧ (ys.map (·.1)).Nodup ∧ h.get? p = some o ∧ o.ExactDict ∧ o.data = .dict es ep ∧ es.toList = ys.map fun y => (⟨y.1.hash w, .ref y.2.1, y.2.2⟩ : DictEntry)
def KeyAt (K : PySem.W.Frag) (H : Hp) (x : NestedKey × Addr) : Prop := ∃ vs, SqT K H x.2 vs ∧ (∀ v ∈ vs, flatV v = true) ∧ x.1 = .tup (vs.map kN)
def putNK (xs : List (NestedKey × Addr)) (k : NestedKey) (a : Addr) : List (NestedKey × Addr) := if k ∈ xs.map (·.1) then xs else xs ++ [(k, a)]
section
variable {h : Heap}
theorem nest_of {v : V} {u : Value} (r : RelV v u) (f : flatV v = true) : NestedIs h (kN v) u := by
  cases v with
  | non =>
    obtain rfl : u = Value.none := r
    exact .none
  | bl b =>
    obtain rfl : u = Value.bool b := r
    exact .bool rfl
  | int i =>
    obtain ⟨t, rfl⟩ : ∃ t, u = Value.int i t := r
    exact .int i t
  | str x =>
    obtain ⟨t, rfl⟩ : ∃ t, u = Value.str x t := r
    exact .text x t
  | _ => cases f
theorem nests_of {vs : List V} {us : List Value} (r : Vals vs us) (f : ∀ v ∈ vs, flatV v = true) : NestedAll h (vs.map kN) us := by
  induction r with
  | nil => exact .nil
  | cons a b ih => exact .cons (nest_of a (f _ List.mem_cons_self)) (ih fun v m => f v (List.mem_cons_of_mem _ m))
theorem kN_depth (v : V) : (kN v).depth = 0 := by cases v <;> rfl
theorem kNs_depth : ∀ vs : List V, NestedKey.depthAll (vs.map kN) = 0
  | [] => rfl
  | v :: vs => by rw [List.map_cons, NestedKey.depthAll, kN_depth, kNs_depth vs]; rfl
theorem KeyAt.same {K : PySem.W.Frag} {G H : Hp} {x : NestedKey × Addr} (k : KeyAt K G x) (s : Same G H) : KeyAt K H x := by
  obtain ⟨vs, h1, h2, h3⟩ := k
  exact ⟨vs, sqT_at (fun o q => s _ o q) h1, h2, h3⟩
theorem KeyAt.is {X : Cx} {pins : List (Addr × Obj)} {σ : L2.St} {H : Hp} {s : Shared} (I : Inv X pins σ H s) {x : NestedKey × Addr} (k : KeyAt X.K H x) : (nestedKind X.prog X.w).is s.heap x.1 x.2 := by
  obtain ⟨vs, h1, h2, h3⟩ := k
  obtain ⟨its, rv, ⟨o, g1, g2, n, g3⟩, _⟩ := I.tuple h1
  rw [h3]
  exact ⟨.tup g1 g2 g3 (by simpa using nests_of rv h2), by rw [NestedKey.depth, kNs_depth]; decide⟩
theorem TupD.dict {P : Program} {w : World} {p : Addr} {xs : List (NestedKey × Addr)} (n : TupD w p xs h) (k : ∀ x ∈ xs, (nestedKind P w).is h x.1 x.2) : (p == sysModules) = false ∧ ∃ ys, ys.map (fun y => (y.1, y.2.1)) = xs ∧ h.DictOfH (nestedKind P w) p ys := by
  obtain ⟨hm, ys, o, es, ep, h1, h2, h3, h4, h5, h6⟩ := n
  exact ⟨hm, ys, h1, o, es, ep, h3, h4, h5, h6, fun y m => k _ (by rw [← h1]; exact List.mem_map_of_mem (f := fun y : NestedKey × Addr × Value => (y.1, y.2.1)) m), h2⟩
theorem TupD.of {P : Program} {w : World} {p : Addr} {ys : List (NestedKey × Addr × Value)} (hm : (p == sysModules) = false) (d : h.DictOfH (nestedKind P w) p ys) : TupD w p (ys.map fun y => (y.1, y.2.1)) h := by
  obtain ⟨o, es, ep, h3, h4, h5, h6, _, h2⟩ := d
  exact ⟨hm, ys, o, es, ep, rfl, h2, h3, h4, h5, h6⟩
theorem TupD.stays {w : World} {p : Addr} {xs : List (NestedKey × Addr)} {h1 h2 : Heap} (n : TupD w p xs h1) (k : ∀ o, h1.get? p = some o → h2.get? p = some o) : TupD w p xs h2 := by
  obtain ⟨hm, ys, o, es, ep, a1, a2, a3, a4⟩ := n
  exact ⟨hm, ys, o, es, ep, a1, a2, k _ a3, a4⟩
theorem TupD.there {w : World} {p : Addr} {xs : List (NestedKey × Addr)} (n : TupD w p xs h) : ∃ o, h.get? p = some o := by
  obtain ⟨_, _, o, _, _, _, _, a3, _⟩ := n
  exact ⟨o, a3⟩
theorem TupD.objOk {P : Program} {w : World} {p : Addr} {xs : List (NestedKey × Addr)} {H : Hp} (n : TupD w p xs h) : L2.ObjOk P w H h p (.ext (TupD w p xs)) := ⟨n, n.there, fun _ _ m k => m.stays k⟩
theorem atKey_mem (ys : List (NestedKey × Addr × Value)) (k : NestedKey) : (atKey ys k).isSome = decide (k ∈ (ys.map fun y => (y.1, y.2.1)).map (·.1)) := by
  unfold atKey
  rw [Option.isSome_map, List.map_map]
  induction ys with
  | nil => simp
  | cons y ys ih =>
    rw [List.find?_cons]
    by_cases c : y.1 = k
    · simp [c]
    · rw [decide_eq_false c]
      simp only [List.map_cons, List.mem_cons, Function.comp_apply]
      rw [ih]
      have : ¬ k = y.1 := fun z => c z.symm
      simp [this, Function.comp_def]
theorem stored_put (ys : List (NestedKey × Addr × Value)) (k : NestedKey) (a : Addr) (v : Value) : (storedH ys k a v).map (fun y => (y.1, y.2.1)) = putNK (ys.map fun y => (y.1, y.2.1)) k a := by
  unfold storedH putNK
  rw [atKey_mem]
  by_cases c : k ∈ (ys.map fun y => (y.1, y.2.1)).map (·.1)
  · rw [decide_eq_true c, if_pos rfl, if_pos c, List.map_map]
    refine List.map_congr_left fun y _ => ?_
    show ((putAt k v y).1, (putAt k v y).2.1) = _
    unfold putAt
    split <;> rfl
  · rw [decide_eq_false c, if_neg (by decide), if_neg c, List.map_append]
    rfl
end
end Fv


set_option Elab.async false
set_option linter.all false
set_option maxRecDepth 100000
set_option maxHeartbeats 4000000
set_option autoImplicit false
/-! What the code computes, as functions over plain data: values that stay (D), things that change (Ob, by number). -/
namespace Fv
open PySem PySem.Spec PyProof.Rows L2 Bm

inductive D where
  | non | bl (b : Bool) | int (i : Int) | str (x : Str) | tup (xs : List D) | lst (xs : List D) | scr (xs : List D) | dic (ks : List Key) (ds : List D) | ref (k : Nat) | obj (c : Str) (ns : List Str) (ds : List D) | typ (n : String) | nd (ks : List (Option Int))
inductive Ob where
  | lst (xs : List D) | dic (ks : List Key) (ds : List D) | ins (c : Str) (fs : List (Str × D)) | td (w : World) (ks : List NestedKey)
structure En where
  ρ : List (Option D)
  h : List Ob
inductive Res (α : Type) where
  | ok (a : α) (e : En) | ex (x : Str) (fs : List (Str × D)) (e : En) | stuck
abbrev M (α : Type) := En → Res α

/-! ### values in a heap: G what stays, ι the places of the things that change -/
inductive RD (K : PySem.W.Frag) (G : Hp) (ι : List Addr) : D → V → Prop
  | non : RD K G ι .non .non
  | bl (b : Bool) : RD K G ι (.bl b) (.bl b)
  | int (i : Int) : RD K G ι (.int i) (.int i)
  | str (x : Str) : RD K G ι (.str x) (.str x)
  | tup {a : Addr} {vs : List V} {xs : List D} (h : SqT K G a vs) (l : vs.length = xs.length) (e : ∀ (i : Nat) d v, xs[i]? = some d → vs[i]? = some v → RD K G ι d v) : RD K G ι (.tup xs) (.ref a)
  | lst {a : Addr} {vs : List V} {xs : List D} (h : G a = some (.lst vs)) (l : vs.length = xs.length) (e : ∀ (i : Nat) d v, xs[i]? = some d → vs[i]? = some v → RD K G ι d v) : RD K G ι (.lst xs) (.ref a)
  | scr {a : Addr} {vs : List V} {xs : List D} (h : SqL K G a vs) (l : vs.length = xs.length) (e : ∀ (i : Nat) d v, xs[i]? = some d → vs[i]? = some v → RD K G ι d v) : RD K G ι (.scr xs) (.ref a)
  | dic {a : Addr} {kvs : List (Key × V)} {ks : List Key} {ds : List D} (h : G a = some (.dK kvs)) (hk : kvs.map (·.1) = ks) (l : kvs.length = ds.length)
      (e : ∀ (i : Nat) d kv, ds[i]? = some d → kvs[i]? = some kv → RD K G ι d kv.2) : RD K G ι (.dic ks ds) (.ref a)
  | ref {k : Nat} {a : Addr} (h : ι[k]? = some a) : RD K G ι (.ref k) (.ref a)
  | obj {a dx : Addr} {gs : List (Str × V)} {c : Str} {ns : List Str} {ds : List D} (h : G a = some (.ins (He.ga K c) dx gs)) (hk : gs.map (·.1) = ns) (l : gs.length = ds.length)
      (e : ∀ (i : Nat) d g, ds[i]? = some d → gs[i]? = some g → RD K G ι d g.2) : RD K G ι (.obj c ns ds) (.ref a)
  | typ (n : String) : RD K G ι (.typ n) (.ty n)
  | nd {a : Addr} {ks : List (Option Int)} (h : G a = some (.ext (NoneD a ks))) : RD K G ι (.nd ks) (.ref a)
def RDs (K : PySem.W.Frag) (G : Hp) (ι : List Addr) (xs : List D) (vs : List V) : Prop := vs.length = xs.length ∧ ∀ (i : Nat) d v, xs[i]? = some d → vs[i]? = some v → RD K G ι d v
/-- more is known -/
structure Up (G : Hp) (ι : List Addr) (G' : Hp) (ι' : List Addr) : Prop where
  g : Same G G'
  i : ι <+: ι'
theorem Up.refl {G : Hp} {ι : List Addr} : Up G ι G ι := ⟨Same.refl _, List.prefix_refl _⟩
theorem Up.trans {G G1 G2 : Hp} {ι ι1 ι2 : List Addr} (a : Up G ι G1 ι1) (b : Up G1 ι1 G2 ι2) : Up G ι G2 ι2 := ⟨a.g.trans b.g, a.i.trans b.i⟩
theorem pre_get {α : Type} {l l' : List α} (p : l <+: l') {i : Nat} {x : α} (h : l[i]? = some x) : l'[i]? = some x := by
  obtain ⟨t, rfl⟩ := p
  have hl : i < l.length := (List.getElem?_eq_some_iff.mp h).1
  rw [List.getElem?_append_left hl]
  exact h
section
variable {K : PySem.W.Frag} {G G' : Hp} {ι ι' : List Addr}
theorem RD.up {d : D} {v : V} (h : RD K G ι d v) (u : Up G ι G' ι') : RD K G' ι' d v := by
  induction h with
  | non => exact .non
  | bl b => exact .bl b
  | int i => exact .int i
  | str x => exact .str x
  | tup h l e ih => exact .tup (sqT_at (fun o q => u.g _ o q) h) l ih
  | lst h l e ih => exact .lst (u.g _ _ h) l ih
  | scr h l e ih => exact .scr (u.g.seq h) l ih
  | dic h hk l e ih => exact .dic (u.g _ _ h) hk l ih
  | ref h => exact .ref (pre_get u.i h)
  | obj h hk l e ih => exact .obj (u.g _ _ h) hk l ih
  | typ n => exact .typ n
  | nd h => exact .nd (u.g _ _ h)
theorem RDs.up {xs : List D} {vs : List V} (h : RDs K G ι xs vs) (u : Up G ι G' ι') : RDs K G' ι' xs vs := ⟨h.1, fun i d v a b => (h.2 i d v a b).up u⟩
theorem RDs.nil : RDs K G ι [] [] := ⟨rfl, fun i d v a => by simp at a⟩
theorem RDs.cons {d : D} {v : V} {xs : List D} {vs : List V} (h : RD K G ι d v) (t : RDs K G ι xs vs) : RDs K G ι (d :: xs) (v :: vs) := by
  refine ⟨by rw [List.length_cons, List.length_cons, t.1], fun i e u a b => ?_⟩
  cases i with
  | zero =>
    obtain rfl : d = e := by simpa using a
    obtain rfl : v = u := by simpa using b
    exact h
  | succ i => exact t.2 i e u (by simpa using a) (by simpa using b)
theorem RDs.inv_nil {vs : List V} (h : RDs K G ι [] vs) : vs = [] := List.eq_nil_of_length_eq_zero h.1
theorem RDs.inv_cons {d : D} {xs : List D} {vs : List V} (h : RDs K G ι (d :: xs) vs) : ∃ v vs', vs = v :: vs' ∧ RD K G ι d v ∧ RDs K G ι xs vs' := by
  cases vs with
  | nil => cases h.1
  | cons v vs' =>
    refine ⟨v, vs', rfl, h.2 0 d v rfl rfl, ?_, fun i e u a b => h.2 (i + 1) e u (by simpa using a) (by simpa using b)⟩
    have := h.1
    simpa using this
theorem RDs.get {xs : List D} {vs : List V} (h : RDs K G ι xs vs) {i : Nat} {d : D} (a : xs[i]? = some d) : ∃ v, vs[i]? = some v ∧ RD K G ι d v := by
  have hl : i < vs.length := by
    rw [h.1]
    exact (List.getElem?_eq_some_iff.mp a).1
  exact ⟨vs[i], List.getElem?_eq_getElem hl, h.2 i d _ a (List.getElem?_eq_getElem hl)⟩
theorem RDs.getV {xs : List D} {vs : List V} (h : RDs K G ι xs vs) {i : Nat} {v : V} (a : vs[i]? = some v) : ∃ d, xs[i]? = some d ∧ RD K G ι d v := by
  have hl : i < xs.length := by
    rw [← h.1]
    exact (List.getElem?_eq_some_iff.mp a).1
  exact ⟨xs[i], List.getElem?_eq_getElem hl, h.2 i _ v (List.getElem?_eq_getElem hl) a⟩
theorem RDs.append {xs ys : List D} {vs us : List V} (h : RDs K G ι xs vs) (t : RDs K G ι ys us) : RDs K G ι (xs ++ ys) (vs ++ us) := by
  induction xs generalizing vs with
  | nil =>
    rw [h.inv_nil]
    exact t
  | cons d xs ih =>
    obtain ⟨v, vs', rfl, h1, h2⟩ := h.inv_cons
    exact .cons h1 (ih h2)
theorem RDs.one {d : D} {v : V} (h : RD K G ι d v) : RDs K G ι [d] [v] := .cons h .nil
theorem RDs.set {xs : List D} {vs : List V} (h : RDs K G ι xs vs) {i : Nat} {d : D} {v : V} (r : RD K G ι d v) : RDs K G ι (xs.set i d) (vs.set i v) := by
  refine ⟨by rw [List.length_set, List.length_set, h.1], fun j e u a b => ?_⟩
  rw [List.getElem?_set] at a b
  by_cases hij : i = j
  · subst hij
    rw [if_pos rfl] at a b
    split at a
    · split at b
      · cases a
        cases b
        exact r
      · cases b
    · cases a
  · rw [if_neg hij] at a b
    exact h.2 j e u a b
theorem RDs.take {xs : List D} {vs : List V} (h : RDs K G ι xs vs) (n : Nat) : RDs K G ι (xs.take n) (vs.take n) := by
  refine ⟨by rw [List.length_take, List.length_take, h.1], fun j e u a b => ?_⟩
  rw [List.getElem?_take] at a b
  split at a
  · rename_i hj
    rw [if_pos hj] at b
    exact h.2 j e u a b
  · cases a
theorem RDs.drop {xs : List D} {vs : List V} (h : RDs K G ι xs vs) (n : Nat) : RDs K G ι (xs.drop n) (vs.drop n) := by
  refine ⟨by rw [List.length_drop, List.length_drop, h.1], fun j e u a b => ?_⟩
  rw [List.getElem?_drop] at a b
  exact h.2 _ e u a b
theorem RD.tup' {a : Addr} {vs : List V} {xs : List D} (h : SqT K G a vs) (r : RDs K G ι xs vs) : RD K G ι (.tup xs) (.ref a) := .tup h r.1 r.2
theorem RD.lst' {a : Addr} {vs : List V} {xs : List D} (h : G a = some (.lst vs)) (r : RDs K G ι xs vs) : RD K G ι (.lst xs) (.ref a) := .lst h r.1 r.2
end
/-! ### the things that change -/
def RK (K : PySem.W.Frag) (G : Hp) (ι : List Addr) (ks : List Key) (ds : List D) (kvs : List (Key × V)) : Prop := kvs.map (·.1) = ks ∧ RDs K G ι ds (kvs.map (·.2))
def RF (K : PySem.W.Frag) (G : Hp) (ι : List Addr) (fs : List (Str × D)) (gs : List (Str × V)) : Prop := gs.map (·.1) = fs.map (·.1) ∧ RDs K G ι (fs.map (·.2)) (gs.map (·.2))
def ObOk (K : PySem.W.Frag) (G : Hp) (ι : List Addr) (H : Hp) (a : Addr) : Ob → Prop
  | .lst xs => ∃ vs, H a = some (.lst vs) ∧ RDs K G ι xs vs
  | .dic ks ds => ∃ kvs, H a = some (.dK kvs) ∧ RK K G ι ks ds kvs
  | .ins c fs => ∃ dx gs, H a = some (.ins (He.ga K c) dx gs) ∧ RF K G ι fs gs
  | .td w ks => ∃ xs, H a = some (.ext (TupD w a xs)) ∧ xs.map (·.1) = ks ∧ ∀ x ∈ xs, KeyAt K G x
structure Hs (K : PySem.W.Frag) (G : Hp) (ι : List Addr) (H : Hp) (h : List Ob) : Prop where
  s : Same G H
  nd : ι.Nodup
  len : ι.length = h.length
  g : ∀ a ∈ ι, G a = none
  nt : ∀ a ps, G a ≠ some (.tbl ps)
  ob : ∀ (k : Nat) a o, ι[k]? = some a → h[k]? = some o → ObOk K G ι H a o
def Sls (K : PySem.W.Frag) (G : Hp) (ι : List Addr) (σ : L2.St) (ρ : List (Option D)) : Prop := σ.length = ρ.length ∧ ∀ (i : Nat) d, ρ[i]? = some (some d) → ∃ v, σ[i]? = some (some v) ∧ RD K G ι d v
structure Ok (K : PySem.W.Frag) (T : List (Addr × Str)) (G : Hp) (ι : List Addr) (H : Hp) (σ : L2.St) (e : En) : Prop where
  hs : Hs K G ι H e.h
  sl : Sls K G ι σ e.ρ
  tb : LamX.Tabs T H
/-- how an exception lies -/
def XOk (K : PySem.W.Frag) (G : Hp) (ι : List Addr) (H : Hp) (fs : List (Str × D)) (dd : Option Addr) : Prop := (fs = [] ∧ dd = none) ∨ (fs ≠ [] ∧ ∃ d gs, dd = some d ∧ H d = some (.xd gs) ∧ ∀ f x, fs.lookup f = some x → ∃ v, gs.lookup f = some v ∧ RD K G ι x v)
structure Ct where
  K : PySem.W.Frag
  T : List (Addr × Str)
  W : WX
/-- what is wanted behind a piece that leaves the slots as they are -/
def PX (C : Ct) (G : Hp) (ι : List Addr) (σ : L2.St) {α : Type} (r : Res α) (k : α → En → Hp → List Addr → Hp → Prop) : Prop := match r with
  | .ok a e' => ∀ G' ι' H', Up G ι G' ι' → Ok C.K C.T G' ι' H' σ e' → k a e' G' ι' H'
  | .ex x fs e' => ∀ G' ι' H' dd, Up G ι G' ι' → Ok C.K C.T G' ι' H' σ e' → XOk C.K G' ι' H' fs dd → C.W (.ref (He.ga C.K x)) dd σ H'
  | .stuck => False
/-- an expression's reading by a function; a test's; an argument list's; that of a new thing, which nobody else knows -/
def tF (C : Ct) (f : M D) : TE := fun σ H Q => ∃ G ι e, Ok C.K C.T G ι H σ e ∧ PX C G ι σ (f e) fun d _ G' ι' H' => ∀ v, RD C.K G' ι' d v → Q v H'
def tFB (C : Ct) (f : M Bool) : TT := fun σ H Q => ∃ G ι e, Ok C.K C.T G ι H σ e ∧ PX C G ι σ (f e) fun b _ _ _ H' => Q b H'
def tFA (C : Ct) (f : M (List D)) : TA := fun σ H Q => ∃ G ι e, Ok C.K C.T G ι H σ e ∧ PX C G ι σ (f e) fun ds _ G' ι' H' => ∀ vs, RDs C.K G' ι' ds vs → Q vs H'
def tFO (C : Ct) (f : M Ob) : TE := fun σ H Q => ∃ G ι e, Ok C.K C.T G ι H σ e ∧ PX C G ι σ (f e) fun o _ G' ι' H' => ∀ a, G' a = none → a ∉ ι' → ObOk C.K G' ι' H' a o → Q (.ref a) H'
/-- how a statement goes on -/
inductive Fl where
  | nx | rt (d : D) | bk | ct
def PS' (C : Ct) (Z : Ends) (G : Hp) (ι : List Addr) (r : Res Fl) : Prop := match r with
  | .ok .nx e' => ∀ G' ι' H' σ', Up G ι G' ι' → Ok C.K C.T G' ι' H' σ' e' → Z.nx σ' H'
  | .ok .bk e' => ∀ G' ι' H' σ', Up G ι G' ι' → Ok C.K C.T G' ι' H' σ' e' → Z.bk σ' H'
  | .ok .ct e' => ∀ G' ι' H' σ', Up G ι G' ι' → Ok C.K C.T G' ι' H' σ' e' → Z.ct σ' H'
  | .ok (.rt d) e' => ∀ G' ι' H' σ' v, Up G ι G' ι' → Ok C.K C.T G' ι' H' σ' e' → RD C.K G' ι' d v → Z.rt v H'
  | .ex x fs e' => ∀ G' ι' H' σ' dd, Up G ι G' ι' → Ok C.K C.T G' ι' H' σ' e' → XOk C.K G' ι' H' fs dd → C.W (.ref (He.ga C.K x)) dd σ' H'
  | .stuck => False
def tFS (C : Ct) (f : M Fl) : TS := fun Z σ H => ∃ G ι e, Ok C.K C.T G ι H σ e ∧ PS' C Z G ι (f e)
def bnd {α β : Type} (f : M α) (g : α → M β) : M β := fun e => match f e with
  | .ok a e' => g a e'
  | .ex x fs e' => .ex x fs e'
  | .stuck => .stuck
def ret {α : Type} (a : α) : M α := fun e => .ok a e
section
variable {C : Ct} {G G' : Hp} {ι ι' : List Addr} {σ : L2.St} {α β : Type}
theorem PX.up {r : Res α} {k : α → En → Hp → List Addr → Hp → Prop} (h : PX C G ι σ r k) (u : Up G ι G' ι') : PX C G' ι' σ r k := by
  cases r with
  | ok a e' => exact fun G1 ι1 H1 u1 o => h G1 ι1 H1 (u.trans u1) o
  | ex x fs e' => exact fun G1 ι1 H1 dd u1 o q => h G1 ι1 H1 dd (u.trans u1) o q
  | stuck => exact h
theorem PX.imp {r : Res α} {k k' : α → En → Hp → List Addr → Hp → Prop} (h : PX C G ι σ r k) (i : ∀ a e' G' ι' H', Up G ι G' ι' → Ok C.K C.T G' ι' H' σ e' → k a e' G' ι' H' → k' a e' G' ι' H') : PX C G ι σ r k' := by
  cases r with
  | ok a e' => exact fun G1 ι1 H1 u1 o => i _ _ _ _ _ u1 o (h G1 ι1 H1 u1 o)
  | ex x fs e' => exact h
  | stuck => exact h
theorem PX.bnd {f : M α} {g : α → M β} {e : En} {k : β → En → Hp → List Addr → Hp → Prop} (h : PX C G ι σ (bnd f g e) k) : PX C G ι σ (f e) fun a e' G' ι' _ => PX C G' ι' σ (g a e') k := by
  unfold Fv.bnd at h
  cases q : f e with
  | ok a e' =>
    rw [q] at h
    exact fun G1 ι1 H1 u1 o => PX.up h u1
  | ex x fs e' =>
    rw [q] at h
    exact h
  | stuck =>
    rw [q] at h
    exact h
theorem PX.now {a : α} {e : En} {H : Hp} {k : α → En → Hp → List Addr → Hp → Prop} (h : PX C G ι σ (.ok a e) k) (o : Ok C.K C.T G ι H σ e) : k a e G ι H := h G ι H Up.refl o
theorem PS'.up {Z : Ends} {r : Res Fl} (h : PS' C Z G ι r) (u : Up G ι G' ι') : PS' C Z G' ι' r := by
  cases r with
  | ok a e' =>
    cases a with
    | nx => exact fun G1 ι1 H1 σ1 u1 o => h G1 ι1 H1 σ1 (u.trans u1) o
    | bk => exact fun G1 ι1 H1 σ1 u1 o => h G1 ι1 H1 σ1 (u.trans u1) o
    | ct => exact fun G1 ι1 H1 σ1 u1 o => h G1 ι1 H1 σ1 (u.trans u1) o
    | rt d => exact fun G1 ι1 H1 σ1 v u1 o q => h G1 ι1 H1 σ1 v (u.trans u1) o q
  | ex x fs e' => exact fun G1 ι1 H1 σ1 dd u1 o q => h G1 ι1 H1 σ1 dd (u.trans u1) o q
  | stuck => exact h
/-- an expression, then a statement's rest -/
theorem PS'.bnd {f : M α} {g : α → M Fl} {e : En} {Z : Ends} (h : PS' C Z G ι (bnd f g e)) : PX C G ι σ (f e) fun a e' G' ι' _ => PS' C Z G' ι' (g a e') := by
  unfold Fv.bnd at h
  cases q : f e with
  | ok a e' =>
    rw [q] at h
    exact fun G1 ι1 H1 u1 o => PS'.up h u1
  | ex x fs e' =>
    rw [q] at h
    exact fun G1 ι1 H1 dd u1 o q => h G1 ι1 H1 σ dd u1 o q
  | stuck =>
    rw [q] at h
    exact h
end
section
variable {X : Cx}
theorem imE {e : Expr} {t t' : TE} (h : PE X e t) (i : ∀ σ H Q, t' σ H Q → t σ H Q) : PE X e t' := ⟨fun pins s σ H Q I q => h.run pins s σ H Q I (i σ H Q q)⟩
theorem imT {e : Expr} {t t' : TT} (h : PT X e t) (i : ∀ σ H Q, t' σ H Q → t σ H Q) : PT X e t' := ⟨fun pins s σ H Q I q => h.run pins s σ H Q I (i σ H Q q)⟩
theorem imA {es : List Expr} {t t' : TA} (h : PA X es t) (i : ∀ σ H Q, t' σ H Q → t σ H Q) : PA X es t' := ⟨fun pos pins s σ H Q I q => h.run pos pins s σ H Q I (i σ H Q q)⟩
theorem imS {st : Stmt} {t t' : TS} (h : PS X st t) (i : ∀ Z σ H, t' Z σ H → t Z σ H) : PS X st t' := ⟨fun pins s σ H Z I q => h.run pins s σ H Z I (i Z σ H q)⟩
theorem imSs {st : List Stmt} {t t' : TS} (h : PSs X st t) (i : ∀ Z σ H, t' Z σ H → t Z σ H) : PSs X st t' := ⟨fun pins s σ H Z I q => h.run pins s σ H Z I (i Z σ H q)⟩
end
/-! ### new things -/
section
variable {K : PySem.W.Frag} {T : List (Addr × Str)} {G H : Hp} {ι : List Addr} {h : List Ob} {σ : L2.St} {e : En} {p : Addr} {o : HO}
theorem Hs.isSome (s : Hs K G ι H h) {a : Addr} (ha : a ∈ ι) : ∃ o, H a = some o := by
  obtain ⟨k, hk⟩ := List.getElem?_of_mem ha
  have hl : k < h.length := by
    rw [← s.len]
    exact (List.getElem?_eq_some_iff.mp hk).1
  have q := s.ob k a h[k] hk (List.getElem?_eq_getElem hl)
  cases e : h[k] with
  | lst xs =>
    rw [e] at q
    obtain ⟨vs, q, _⟩ := q
    exact ⟨_, q⟩
  | dic ks ds =>
    rw [e] at q
    obtain ⟨vs, q, _⟩ := q
    exact ⟨_, q⟩
  | ins c fs =>
    rw [e] at q
    obtain ⟨dx, gs, q, _⟩ := q
    exact ⟨_, q⟩
  | td w ks =>
    rw [e] at q
    obtain ⟨xs, q, _⟩ := q
    exact ⟨_, q⟩
theorem Hs.not_mem (s : Hs K G ι H h) (n : H p = none) : p ∉ ι := fun hp => by
  obtain ⟨o, q⟩ := s.isSome hp
  rw [n] at q
  cases q
theorem Hs.gnone (s : Hs K G ι H h) (n : H p = none) : G p = none := s.s.free n
theorem RK.up {G' : Hp} {ι' : List Addr} {ks : List Key} {ds : List D} {kvs : List (Key × V)} (r : RK K G ι ks ds kvs) (u : Up G ι G' ι') : RK K G' ι' ks ds kvs := ⟨r.1, r.2.up u⟩
theorem RF.up {G' : Hp} {ι' : List Addr} {fs : List (Str × D)} {gs : List (Str × V)} (r : RF K G ι fs gs) (u : Up G ι G' ι') : RF K G' ι' fs gs := ⟨r.1, r.2.up u⟩
theorem ObOk.up {G' H' : Hp} {ι' : List Addr} {a : Addr} {x : Ob} (r : ObOk K G ι H a x) (u : Up G ι G' ι') (q : H' a = H a) : ObOk K G' ι' H' a x := by
  cases x with
  | lst xs =>
    obtain ⟨vs, h1, h2⟩ := r
    exact ⟨vs, q.trans h1, h2.up u⟩
  | dic ks ds =>
    obtain ⟨vs, h1, h2⟩ := r
    exact ⟨vs, q.trans h1, h2.up u⟩
  | ins c fs =>
    obtain ⟨dx, vs, h1, h2⟩ := r
    exact ⟨dx, vs, q.trans h1, h2.up u⟩
  | td w ks =>
    obtain ⟨xs, h1, h2, h3⟩ := r
    exact ⟨xs, q.trans h1, h2, fun x m => (h3 x m).same u.g⟩
theorem ObOk.has {a : Addr} {x : Ob} (r : ObOk K G ι H a x) : ∃ o, H a = some o ∧ ∀ ps, o ≠ .tbl ps := by
  cases x with
  | lst xs =>
    obtain ⟨vs, h1, h2⟩ := r
    exact ⟨_, h1, fun _ z => by cases z⟩
  | dic ks ds =>
    obtain ⟨vs, h1, h2⟩ := r
    exact ⟨_, h1, fun _ z => by cases z⟩
  | ins c fs =>
    obtain ⟨dx, vs, h1, h2⟩ := r
    exact ⟨_, h1, fun _ z => by cases z⟩
  | td w ks =>
    obtain ⟨xs, h1, h2⟩ := r
    exact ⟨_, h1, fun _ z => by cases z⟩
/-- something that stays is made -/
theorem up_new (n : G p = none) : Up G ι (upd G p o) ι := ⟨Same.new n, List.prefix_refl _⟩
theorem Hs.new (s : Hs K G ι H h) (n : H p = none) (ho : ∀ ps, o ≠ .tbl ps := by intro _ z; cases z) : Hs K (upd G p o) ι (upd H p o) h := by
  have u : Up G ι (upd G p o) ι := up_new (s.gnone n)
  refine ⟨fun a x q => ?_, s.nd, s.len, fun a ha => ?_, fun a ps q => ?_, fun k a x hk hx => (s.ob k a x hk hx).up u ?_⟩
  · by_cases e : a = p
    · subst e
      rw [upd_same] at q ⊢
      exact q
    · rw [upd_ne e] at q ⊢
      exact s.s _ _ q
  · have e : a ≠ p := fun z => s.not_mem n (z ▸ ha)
    rw [upd_ne e]
    exact s.g a ha
  · by_cases e : a = p
    · rw [e, upd_same] at q
      exact ho ps (Option.some.inj q)
    · rw [upd_ne e] at q
      exact s.nt a ps q
  · have e : a ≠ p := fun z => s.not_mem n (z ▸ List.mem_of_getElem? hk)
    exact upd_ne e
theorem Sls.up {G' : Hp} {ι' : List Addr} {ρ : List (Option D)} (s : Sls K G ι σ ρ) (u : Up G ι G' ι') : Sls K G' ι' σ ρ := ⟨s.1, fun i d q => by
  obtain ⟨v, h1, h2⟩ := s.2 i d q
  exact ⟨v, h1, h2.up u⟩⟩
theorem Ok.new (k : Ok K T G ι H σ e) (n : H p = none) (ho : ∀ ps, o ≠ .tbl ps := by intro _ z; cases z) : Ok K T (upd G p o) ι (upd H p o) σ e :=
  ⟨k.hs.new n ho, k.sl.up (up_new (k.hs.gnone n)), k.tb.ext (Same.new n)⟩
/-- something new that is not yet known -/
theorem Hs.temp (s : Hs K G ι H h) (n : H p = none) : Hs K G ι (upd H p o) h :=
  ⟨fun a x q => Same.new n _ _ (s.s a x q), s.nd, s.len, s.g, s.nt, fun k a x hk hx => (s.ob k a x hk hx).up Up.refl (upd_ne fun z => s.not_mem n (z ▸ List.mem_of_getElem? hk))⟩
theorem Ok.temp (k : Ok K T G ι H σ e) (n : H p = none) : Ok K T G ι (upd H p o) σ e := ⟨k.hs.temp n, k.sl, k.tb.ext (Same.new n)⟩
end
end Fv


set_option Elab.async false
set_option linter.all false
set_option maxRecDepth 100000
set_option maxHeartbeats 4000000
set_option autoImplicit false
namespace Fv
open PySem PySem.Spec PyProof.Rows L2 Bm
/-! ### a new thing: it stays as it is, or it may change -/
section
variable {K : PySem.W.Frag} {T : List (Addr × Str)} {G H : Hp} {ι : List Addr} {h : List Ob} {σ : L2.St} {e : En} {a : Addr} {o : HO} {x : Ob}
theorem Hs.frz (s : Hs K G ι H h) (n : G a = none) (m : a ∉ ι) (q : H a = some o) (ho : ∀ ps, o ≠ .tbl ps := by intro _ z; cases z) : Hs K (upd G a o) ι H h := by
  refine ⟨fun b y z => ?_, s.nd, s.len, fun b hb => ?_, fun b ps z => ?_, fun k b y hk hy => (s.ob k b y hk hy).up (up_new n) rfl⟩
  · by_cases e : b = a
    · subst e
      rw [upd_same] at z
      rw [q]
      exact z
    · rw [upd_ne e] at z
      exact s.s _ _ z
  · rw [upd_ne (fun z : b = a => m (z ▸ hb))]
    exact s.g b hb
  · by_cases e : b = a
    · rw [e, upd_same] at z
      exact ho ps (Option.some.inj z)
    · rw [upd_ne e] at z
      exact s.nt b ps z
theorem Ok.frz (k : Ok K T G ι H σ e) (n : G a = none) (m : a ∉ ι) (q : H a = some o) (ho : ∀ ps, o ≠ .tbl ps := by intro _ z; cases z) : Ok K T (upd G a o) ι H σ e := ⟨k.hs.frz n m q ho, k.sl.up (up_new n), k.tb⟩
theorem up_snoc : Up G ι G (ι ++ [a]) := ⟨Same.refl _, List.prefix_append _ _⟩
theorem Hs.pub (s : Hs K G ι H h) (n : G a = none) (m : a ∉ ι) (q : ObOk K G ι H a x) : Hs K G (ι ++ [a]) H (h ++ [x]) := by
  refine ⟨s.s, ?_, ?_, fun b hb => ?_, s.nt, fun k b y hk hy => ?_⟩
  · rw [List.nodup_append]
    refine ⟨s.nd, by simp, fun b hb c hc => ?_⟩
    rw [List.mem_singleton.mp hc]
    exact fun z => m (z ▸ hb)
  · rw [List.length_append, List.length_append, s.len]
    rfl
  · rcases List.mem_append.mp hb with hb | hb
    · exact s.g b hb
    · rw [List.mem_singleton.mp hb]
      exact n
  · by_cases hlt : k < h.length
    · rw [List.getElem?_append_left hlt] at hy
      rw [List.getElem?_append_left (by rw [s.len]; exact hlt)] at hk
      exact (s.ob k b y hk hy).up up_snoc rfl
    · rw [List.getElem?_append_right (by omega)] at hy
      rw [List.getElem?_append_right (by rw [s.len]; omega), s.len] at hk
      have hz : k - h.length = 0 := by
        have := (List.getElem?_eq_some_iff.mp hy).1
        simp at this
        omega
      rw [hz] at hy hk
      cases hy
      cases hk
      exact q.up up_snoc rfl
theorem Ok.pub (k : Ok K T G ι H σ e) (n : G a = none) (m : a ∉ ι) (q : ObOk K G ι H a x) : Ok K T G (ι ++ [a]) H σ ⟨e.ρ, e.h ++ [x]⟩ := ⟨k.hs.pub n m q, k.sl.up up_snoc, k.tb⟩
theorem Ok.ref (k : Ok K T G ι H σ e) (n : G a = none) (m : a ∉ ι) (q : ObOk K G ι H a x) : RD K G (ι ++ [a]) (.ref e.h.length) (.ref a) := .ref (by
  rw [← k.hs.len, List.getElem?_append_right (Nat.le_refl _), Nat.sub_self]
  rfl)
end
def frzM (f : M Ob) : M D := bnd f fun o e => match o with
  | .lst xs => .ok (.lst xs) e
  | .dic ks ds => .ok (.dic ks ds) e
  | .ins _ _ => .stuck
  | .td _ _ => .stuck
def pubM (f : M Ob) : M D := bnd f fun o e => .ok (.ref e.h.length) ⟨e.ρ, e.h ++ [o]⟩
section
variable {X : Cx} {C : Ct} {e : Expr}
theorem v_frz {f : M Ob} (p : PE X e (tFO C f)) : PE X e (tF C (frzM f)) := imE p fun σ H Q h => by
  obtain ⟨G, ι, en, k, h⟩ := h
  refine ⟨G, ι, en, k, PX.imp h.bnd fun o e' G' ι' H' u k' q a n m b => ?_⟩
  cases o with
  | lst xs =>
    obtain ⟨vs, h1, h2⟩ := b
    exact q _ _ _ (up_new n) (k'.frz n m h1) _ (.lst' upd_same (h2.up (up_new n)))
  | dic ks ds =>
    obtain ⟨kvs, h1, h2, h3⟩ := b
    refine q _ _ _ (up_new n) (k'.frz n m h1) _ (.dic upd_same h2 (by have := h3.1; simpa using this) fun i d kv a b => ?_)
    exact (h3.2 i d kv.2 a (by rw [List.getElem?_map, b]; rfl)).up (up_new n)
  | ins c fs => exact q.elim
  | td w ks => exact q.elim
theorem v_pub {f : M Ob} (p : PE X e (tFO C f)) : PE X e (tF C (pubM f)) := imE p fun σ H Q h => by
  obtain ⟨G, ι, en, k, h⟩ := h
  exact ⟨G, ι, en, k, PX.imp h.bnd fun o e' G' ι' H' u k' q a n m b => q _ _ _ up_snoc (k'.pub n m b) _ (k'.ref n m b)⟩
/-! ### names and constants -/
def eV (i : Nat) : M D := fun e => match e.ρ[i]? with
  | some (some d) => .ok d e
  | _ => .stuck
theorem v_var {i : Nat} (p : PE X e (tVar i)) : PE X e (tF C (eV i)) := imE p fun σ H Q h => by
  obtain ⟨G, ι, en, k, h⟩ := h
  unfold eV at h
  split at h
  · rename_i d hd
    obtain ⟨v, h1, h2⟩ := k.sl.2 i d hd
    exact ⟨v, h1, h.now k v h2⟩
  · exact h.elim
theorem v_con {v : V} {d : D} (p : PE X e (tC v)) (r : ∀ G ι, RD C.K G ι d v) : PE X e (tF C (ret d)) := imE p fun σ H Q h => by
  obtain ⟨G, ι, en, k, h⟩ := h
  exact PX.now (a := d) (e := en) h k v (r G ι)
theorem v_int {i j pos} : PE X (.Constant (.int i) j pos) (tF C (ret (.int i))) := v_con pe_int fun _ _ => .int i
theorem v_bl {b j pos} : PE X (.Constant (.bool b) j pos) (tF C (ret (.bl b))) := v_con pe_bl fun _ _ => .bl b
theorem v_non {j pos} : PE X (.Constant .none j pos) (tF C (ret .non)) := v_con pe_non fun _ _ => .non
theorem v_str {x j pos} : PE X (.Constant (.str x) j pos) (tF C (ret (.str x))) := v_con pe_str fun _ _ => .str x
/-! ### operators -/
/-- a thing's reading: nothing known changes, more may be known -/
def Op2 (K : PySem.W.Frag) (r : R2) (g : List Ob → D → D → Option D) : Prop := ∀ (G : Hp) (ι : List Addr) (H : Hp) (h : List Ob) (x y d : D) (u v : V) (Q : VK), Hs K G ι H h → RD K G ι x u → RD K G ι y v → g h x y = some d →
  (∀ G' H' w, Same G G' → Same H H' → Hs K G' ι H' h → RD K G' ι d w → Q w H') → r u v H Q
def OpN (K : PySem.W.Frag) (r : List V → Hp → VK → Prop) (g : List Ob → List D → Option D) : Prop := ∀ (G : Hp) (ι : List Addr) (H : Hp) (h : List Ob) (xs : List D) (d : D) (vs : List V) (Q : VK), Hs K G ι H h → RDs K G ι xs vs → g h xs = some d →
  (∀ G' H' w, Same G G' → Same H H' → Hs K G' ι H' h → RD K G' ι d w → Q w H') → r vs H Q
/-- the same with a new thing that may change -/
def OpNO (K : PySem.W.Frag) (r : List V → Hp → VK → Prop) (g : List Ob → List D → Option Ob) : Prop := ∀ (G : Hp) (ι : List Addr) (H : Hp) (h : List Ob) (xs : List D) (o : Ob) (vs : List V) (Q : VK), Hs K G ι H h → RDs K G ι xs vs → g h xs = some o →
  (∀ H' a, Same H H' → Hs K G ι H' h → G a = none → a ∉ ι → ObOk K G ι H' a o → Q (.ref a) H') → r vs H Q
def lft {α : Type} (o : List Ob → Option α) : M α := fun e => match o e.h with
  | some d => .ok d e
  | none => .stuck
theorem PX.lft {G : Hp} {ι : List Addr} {σ : L2.St} {α : Type} {o : List Ob → Option α} {en : En} {k : α → En → Hp → List Addr → Hp → Prop} (h : PX C G ι σ (Fv.lft o en) k) : ∃ d, o en.h = some d ∧ PX C G ι σ (.ok d en) k := by
  unfold Fv.lft at h
  split at h
  · rename_i d hd
    exact ⟨d, hd, h⟩
  · exact h.elim
theorem Ok.grow {K : PySem.W.Frag} {T : List (Addr × Str)} {G G' H H' : Hp} {ι : List Addr} {σ : L2.St} {en : En} (k : Ok K T G ι H σ en) (g : Same G G') (s : Same H H') (q : Hs K G' ι H' en.h) : Ok K T G' ι H' σ en :=
  ⟨q, k.sl.up ⟨g, List.prefix_refl _⟩, k.tb.ext s⟩
def e2 (g : List Ob → D → D → Option D) (fa fb : M D) : M D := bnd fa fun x => bnd fb fun y => lft fun h => g h x y
theorem im2 {r : R2} {g : List Ob → D → D → Option D} {fa fb : M D} (s : Op2 C.K r g) (σ : L2.St) (H : Hp) (Q : VK) (h : tF C (e2 g fa fb) σ H Q) : tOp r (tF C fa) (tF C fb) σ H Q := by
  obtain ⟨G, ι, en, k, h⟩ := h
  refine ⟨G, ι, en, k, PX.imp h.bnd fun x e1 G1 ι1 H1 u1 k1 q1 u ru => ⟨G1, ι1, e1, k1, PX.imp q1.bnd fun y e2 G2 ι2 H2 u2 k2 q2 v rv => ?_⟩⟩
  obtain ⟨d, hd, q⟩ := q2.lft
  exact s G2 ι2 H2 e2.h x y d u v Q k2.hs (ru.up u2) rv hd fun G' H' w g1 s1 hs r => q G' ι2 H' ⟨g1, List.prefix_refl _⟩ (k2.grow g1 s1 hs) w r
theorem v_op {op : Operator} {a b : Expr} {pos : Pos} {r : R2} {g : List Ob → D → D → Option D} {fa fb : M D} (o : OpR X (binaryOp op) r) (s : Op2 C.K r g) (ha : PE X a (tF C fa)) (hb : PE X b (tF C fb)) : PE X (.BinOp a op b pos) (tF C (e2 g fa fb)) :=
  imE (pe_op o ha hb) fun σ H Q h => im2 s σ H Q h
end
end Fv


set_option Elab.async false
set_option linter.all false
set_option maxRecDepth 100000
set_option maxHeartbeats 4000000
set_option autoImplicit false
namespace Fv
open PySem PySem.Spec PyProof.Rows L2 Bm
/-! ### rows of things -/
def lstOf (h : List Ob) : D → Option (List D)
  | .lst xs => some xs
  | .ref k => match h[k]? with
    | some (.lst xs) => some xs
    | _ => none
  | _ => none
def seqOf (h : List Ob) : D → Option (List D)
  | .lst xs => some xs
  | .tup xs => some xs
  | .scr xs => some xs
  | .ref k => match h[k]? with
    | some (.lst xs) => some xs
    | _ => none
  | _ => none
section
variable {K : PySem.W.Frag} {T : List (Addr × Str)} {G H : Hp} {ι : List Addr} {h : List Ob} {d : D} {v : V} {xs : List D}
theorem Hs.cell (s : Hs K G ι H h) {k : Nat} {o : Ob} {a : Addr} (hk : ι[k]? = some a) (ho : h[k]? = some o) : ObOk K G ι H a o := s.ob k a o hk ho
theorem lst_rd (s : Hs K G ι H h) (r : RD K G ι d v) (e : lstOf h d = some xs) : ∃ a vs, v = .ref a ∧ H a = some (.lst vs) ∧ RDs K G ι xs vs := by
  cases r with
  | lst hh l q =>
    cases e
    exact ⟨_, _, rfl, s.s _ _ hh, l, q⟩
  | @ref k a hk =>
    have e : (match h[k]? with
      | some (.lst xs) => some xs
      | _ => none) = some xs := e
    split at e
    · rename_i ys hy
      cases e
      obtain ⟨vs, h1, h2⟩ := s.cell hk hy
      exact ⟨a, vs, rfl, h1, h2⟩
    · cases e
  | _ => cases e
theorem seq_rd (s : Hs K G ι H h) (r : RD K G ι d v) (e : seqOf h d = some xs) : ∃ a vs, v = .ref a ∧ SqA K H a vs ∧ RDs K G ι xs vs := by
  cases r with
  | lst hh l q =>
    cases e
    exact ⟨_, _, rfl, .inl (SqL.of (s.s _ _ hh)), l, q⟩
  | tup hh l q =>
    cases e
    exact ⟨_, _, rfl, .inr (sqT_at (fun o z => s.s _ o z) hh), l, q⟩
  | scr hh l q =>
    cases e
    exact ⟨_, _, rfl, .inl (s.s.seq hh), l, q⟩
  | @ref k a hk =>
    have e : (match h[k]? with
      | some (.lst xs) => some xs
      | _ => none) = some xs := e
    split at e
    · rename_i ys hy
      cases e
      obtain ⟨vs, h1, h2⟩ := s.cell hk hy
      exact ⟨a, vs, rfl, .inl (SqL.of h1), h2⟩
    · cases e
  | _ => cases e
theorem Hs.same_new {p : Addr} {o : HO} (s : Hs K G ι H h) (n : H p = none) : Same G (upd G p o) := Same.new (s.gnone n)
end
/-! ### numbers -/
instance {i j : Int} : Decidable (CMul i j) := by unfold CMul; infer_instance
instance {i j : Int} : Decidable (CDivW i j) := by unfold CDivW; infer_instance
instance {i j : Int} : Decidable (CPow i j) := by unfold CPow; infer_instance
def int2 (g : Int → Int → Option D) : List Ob → D → D → Option D
  | _, .int i, .int j => g i j
  | _, _, _ => none
section
variable {K : PySem.W.Frag}
theorem o2I {c : Int → Int → Prop} {f : Int → Int → V} {g : Int → Int → Option D} (h : ∀ i j d, g i j = some d → c i j ∧ ∀ G ι, RD K G ι d (f i j)) : Op2 K (rI c f) (int2 g) := by
  intro G ι H hp x y d u v Q s rx ry e q
  cases rx with
  | int i =>
    cases ry with
    | int j =>
      obtain ⟨h1, h2⟩ := h i j d e
      exact ⟨i, j, rfl, rfl, h1, q G H _ (Same.refl _) (Same.refl _) s (h2 G ι)⟩
    | _ => cases e
  | _ => cases e
theorem o2I0 {f : Int → Int → V} {g : Int → Int → Option D} (h : ∀ i j d, g i j = some d → ∀ G ι, RD K G ι d (f i j)) : Op2 K (rI0 f) (int2 g) := by
  intro G ι H hp x y d u v Q s rx ry e q
  cases rx with
  | int i =>
    cases ry with
    | int j => exact ⟨i, j, rfl, rfl, q G H _ (Same.refl _) (Same.refl _) s (h i j d e G ι)⟩
    | _ => cases e
  | _ => cases e
end
def subD : List Ob → D → D → Option D := int2 fun i j => some (.int (i - j))
def divD : List Ob → D → D → Option D := int2 fun i j => if 0 < j ∧ j.natAbs.log2 < 9000 then some (.int (i / j)) else none
def modD : List Ob → D → D → Option D := int2 fun i j => if 0 < j then some (.int (i % j)) else none
def powD : List Ob → D → D → Option D := int2 fun i j => if 0 ≤ j ∧ j ≤ 1000000 ∧ i.natAbs < 2 ^ 64 then some (.int (i ^ j.toNat)) else none
def shlD : List Ob → D → D → Option D := int2 fun i j => if 0 ≤ j ∧ j ≤ 1000000 ∧ i.natAbs < 2 ^ 64 then some (.int (i * 2 ^ j.toNat)) else none
def shrD : List Ob → D → D → Option D := int2 fun i j => if 0 ≤ j then some (.int (i / 2 ^ j.toNat)) else none
def andD : List Ob → D → D → Option D := int2 fun i j => some (.int (Builtin.bitAnd i j))
def orD : List Ob → D → D → Option D := int2 fun i j => some (.int (Builtin.bitOr i j))
def xorD : List Ob → D → D → Option D := int2 fun i j => some (.int (Builtin.bitXor i j))
def ltD : List Ob → D → D → Option D := int2 fun i j => some (.bl (decide (i < j)))
def leD : List Ob → D → D → Option D := int2 fun i j => some (.bl (decide (i ≤ j)))
def gtD : List Ob → D → D → Option D := int2 fun i j => some (.bl (decide (j < i)))
def geD : List Ob → D → D → Option D := int2 fun i j => some (.bl (decide (j ≤ i)))
section
variable {K : PySem.W.Frag}
theorem s_sub : Op2 K (rI0 fun i j => .int (i - j)) subD := o2I0 fun i j d e G ι => by cases e; exact .int _
theorem s_div : Op2 K (rI CDivW fun i j => .int (i / j)) divD := o2I fun i j d e => by
  split at e
  · rename_i c
    cases e
    exact ⟨c, fun _ _ => .int _⟩
  · cases e
theorem s_mod : Op2 K (rI (fun _ j => 0 < j) fun i j => .int (i % j)) modD := o2I fun i j d e => by
  split at e
  · rename_i c
    cases e
    exact ⟨c, fun _ _ => .int _⟩
  · cases e
theorem s_pow : Op2 K (rI CPow fun i j => .int (i ^ j.toNat)) powD := o2I fun i j d e => by
  split at e
  · rename_i c
    cases e
    exact ⟨c, fun _ _ => .int _⟩
  · cases e
theorem s_shl : Op2 K (rI CPow fun i j => .int (i * 2 ^ j.toNat)) shlD := o2I fun i j d e => by
  split at e
  · rename_i c
    cases e
    exact ⟨c, fun _ _ => .int _⟩
  · cases e
theorem s_shr : Op2 K (rI (fun _ j => 0 ≤ j) fun i j => .int (i / 2 ^ j.toNat)) shrD := o2I fun i j d e => by
  split at e
  · rename_i c
    cases e
    exact ⟨c, fun _ _ => .int _⟩
  · cases e
theorem s_and : Op2 K (rI0 fun i j => .int (Builtin.bitAnd i j)) andD := o2I0 fun i j d e G ι => by cases e; exact .int _
theorem s_or : Op2 K (rI0 fun i j => .int (Builtin.bitOr i j)) orD := o2I0 fun i j d e G ι => by cases e; exact .int _
theorem s_xor : Op2 K (rI0 fun i j => .int (Builtin.bitXor i j)) xorD := o2I0 fun i j d e G ι => by cases e; exact .int _
theorem s_lt : Op2 K (rI0 fun i j => .bl (decide (i < j))) ltD := o2I0 fun i j d e G ι => by cases e; exact .bl _
theorem s_le : Op2 K (rI0 fun i j => .bl (decide (i ≤ j))) leD := o2I0 fun i j d e G ι => by cases e; exact .bl _
theorem s_gt : Op2 K (rI0 fun i j => .bl (decide (j < i))) gtD := o2I0 fun i j d e G ι => by cases e; exact .bl _
theorem s_ge : Op2 K (rI0 fun i j => .bl (decide (j ≤ i))) geD := o2I0 fun i j d e G ι => by cases e; exact .bl _
end
/-! ### + and * -/
def addD (h : List Ob) : D → D → Option D
  | .int i, .int j => some (.int (i + j))
  | .str a, .str b => if a.length + b.length ≤ sizeLine then some (.str (a ++ b)) else none
  | .tup xs, .tup ys => if xs.length + ys.length ≤ sizeLine then some (.tup (xs ++ ys)) else none
  | x, y => match lstOf h x, lstOf h y with
    | some xs, some ys => if xs.length + ys.length ≤ sizeLine then some (.lst (xs ++ ys)) else none
    | _, _ => none
def rAddA (K : PySem.W.Frag) : R2 := fun x y H Q => (rI0 (fun i j => .int (i + j)) x y H Q ∨ (∃ i j, x = .str i ∧ y = .str j ∧ i.length + j.length ≤ sizeLine ∧ Q (.str (i ++ j)) H)) ∨ rCatA K x y H Q ∨ rCat x y H Q
theorem catA_ok' {K : PySem.W.Frag} {G H : Hp} {ι : List Addr} {h : List Ob} {a b : Addr} {xs ys : List V} {Q : VK} (s : Hs K G ι H h) (ha : SqT K G a xs) (hb : SqT K G b ys) (hl : xs.length + ys.length ≤ sizeLine)
    (q : ∀ p G' H', Same G G' → Same H H' → Hs K G' ι H' h → SqT K G' p (xs ++ ys) → Q (.ref p) H') : rCatA K (.ref a) (.ref b) H Q := by
  have up : ∀ {c : Addr} {zs : List V}, SqT K G c zs → SqT K H c zs := fun z => sqT_at (fun o w => s.s _ o w) z
  refine ⟨a, b, xs, ys, rfl, rfl, up ha, up hb, hl, fun e => ?_, fun _ e => ?_, fun _ _ p n => ?_⟩
  · subst e
    exact q b G H (Same.refl _) (Same.refl _) s hb
  · subst e
    exact q a G H (Same.refl _) (Same.refl _) s (by rw [List.append_nil]; exact ha)
  · exact q p (upd G p _) (upd H p _) (s.same_new n) (Same.new n) (s.new n) (SqT.of upd_same)
theorem s_add {K : PySem.W.Frag} : Op2 K (rAddA K) addD := by
  intro G ι H h x y d u v Q s rx ry e q
  have lists : (match lstOf h x, lstOf h y with
    | some xs, some ys => if xs.length + ys.length ≤ sizeLine then some (D.lst (xs ++ ys)) else none
    | _, _ => none) = some d → rAddA K u v H Q := fun e => by
    split at e
    · rename_i xs ys h1 h2
      split at e
      · rename_i hl
        cases e
        obtain ⟨a, vs, rfl, a1, a2⟩ := lst_rd s rx h1
        obtain ⟨b, us, rfl, b1, b2⟩ := lst_rd s ry h2
        refine .inr (.inr ⟨a, b, vs, us, rfl, rfl, a1, b1, by rw [a2.1, b2.1]; exact hl, fun p n => ?_⟩)
        have g := s.same_new (o := .lst (vs ++ us)) n
        exact q _ _ _ g (Same.new n) (s.new n) (.lst' upd_same ((a2.append b2).up ⟨g, List.prefix_refl _⟩))
      · cases e
    · cases e
  cases rx with
  | int i =>
    cases ry with
    | int j =>
      cases e
      exact .inl (.inl ⟨i, j, rfl, rfl, q G H _ (Same.refl _) (Same.refl _) s (.int _)⟩)
    | _ => exact lists e
  | str i =>
    cases ry with
    | str j =>
      have e : (if i.length + j.length ≤ sizeLine then some (D.str (i ++ j)) else none) = some d := e
      split at e
      · rename_i hl
        cases e
        exact .inl (.inr ⟨i, j, rfl, rfl, hl, q G H _ (Same.refl _) (Same.refl _) s (.str _)⟩)
      · cases e
    | _ => exact lists e
  | tup ha la ea =>
    cases ry with
    | tup hb lb eb =>
      rename_i a vs xs b us ys
      have e : (if xs.length + ys.length ≤ sizeLine then some (D.tup (xs ++ ys)) else none) = some d := e
      split at e
      · rename_i hl
        cases e
        refine .inr (.inl (catA_ok' s ha hb (by rw [la, lb]; exact hl) fun p G' H' g1 s1 hs r => q G' H' _ g1 s1 hs (.tup' r ?_)))
        exact (RDs.append ⟨la, ea⟩ ⟨lb, eb⟩).up ⟨g1, List.prefix_refl _⟩
      · cases e
    | _ => exact lists e
  | _ => exact lists e
section
variable {X : Cx}
theorem opA_add : OpR X (binaryOp .Add) (rAddA X.K) := OpR.or (OpR.or op_add op_add_str) (OpR.or op_catA op_cat)
end
def mulD (h : List Ob) : D → D → Option D
  | .int i, .int j => if CMul i j then some (.int (i * j)) else none
  | x, y => match lstOf h x, y with
    | some xs, .int k => if -(2 ^ 63) ≤ k ∧ k < 2 ^ 63 ∧ xs.length * k.toNat ≤ sizeLine then some (.lst (List.replicate k.toNat xs).flatten) else none
    | _, _ => none
end Fv


set_option Elab.async false
set_option linter.all false
set_option maxRecDepth 100000
set_option maxHeartbeats 4000000
set_option autoImplicit false
namespace Fv
open PySem PySem.Spec PyProof.Rows L2 Bm
/-! ### tuple * 1 -/
theorem tuple_mul1 (l : Addr) (items : Array Value) (n : Nat) (dd : Option Addr) (sl : Array (Option Value)) (u : Tok) :
    Meets (Builtin.«tuple.__mul__» ⟨[.ref l, .int 1 u], []⟩) (fun _ R s => s.heap.get? l = some { cls := .type "tuple", dict := dd, data := .seq items n, slots := sl } ∧
      R (.ok (.ret (Value.ref l))) s) :=
  .of_wp fun prog w A R s h => by
    obtain ⟨hp, g, d, tk, os⟩ := s
    obtain ⟨hl, h⟩ := h
    have f1 := AutoSeq1.idx_int
    wp_walk using wpAny_loadPart' hl
    repeat (first
      | (refine wpAny_ite_false (decide_eq_false (by decide)) ?_; wp_walk using wpAny_loadPart' hl)
      | (refine wpAny_ite_true (decide_eq_true (by simp)) ?_; wp_walk using wpAny_loadPart' hl))
    exact ⟨_, rfl, h⟩
def rRep1 (K : PySem.W.Frag) : R2 := fun x y H Q => ∃ l xs, x = .ref l ∧ y = .int 1 ∧ SqT K H l xs ∧ Q (.ref l) H
theorem op_rep1 {X : Cx} : OpR X (binaryOp .Mult) (rRep1 X.K) := by
  intro pins s σ H x y v u Q I rx ry h
  obtain ⟨l, xs, rfl, rfl, hT, q⟩ := h
  cases rx
  obtain ⟨t, rfl⟩ := ry
  obtain ⟨its, r, ⟨⟨cls, dd, data, sl⟩, ho, hc, n, hd⟩, hs⟩ := I.tuple hT
  simp only at hc hd
  subst hc hd
  refine wpAny_binaryOp_repeat_ref (T := "tuple") (U := "int") (by decide) ⟨_, ho, rfl⟩ (fun s' => typeIs_int s' 1 t) noFill_tuple_mul F.fills_int_mul F.slot_int_rmul repeat_tuple F.slot_int_index.lookup
    (call_meets F.slot_int_rmul (typeIs_int s 1 t) F.entry_int_rmul (F.args_int_rmul_2 _ _) (int_rmul_tuple 1 t l its.toArray n dd sl)
      ⟨ho, rfl, ⟨_, ho, rfl⟩, call_meets F.slot_tuple_mul ⟨_, ho, rfl⟩ F.entry_tuple_mul (F.args_tuple_mul_2 _ _) (tuple_mul1 l its.toArray n dd sl t) ⟨ho, ?_⟩⟩)
  exact ⟨.ref l, H, I, rfl, q⟩
def mulA (h : List Ob) : D → D → Option D
  | .int i, .int j => if CMul i j then some (.int (i * j)) else none
  | .tup xs, .int k => if k = 1 then some (.tup xs) else if xs.isEmpty = false ∧ 2 ≤ k ∧ k ≤ 1000 ∧ xs.length ≤ 1000 then some (.tup (List.replicate k.toNat xs).flatten) else none
  | x, .int k => match lstOf h x with
    | some xs => if -(2 ^ 63) ≤ k ∧ k < 2 ^ 63 ∧ xs.length * k.toNat ≤ sizeLine then some (.lst (List.replicate k.toNat xs).flatten) else none
    | none => none
  | _, _ => none
def rMulA (K : PySem.W.Frag) : R2 := fun x y H Q => (rI CMul (fun i j => .int (i * j)) x y H Q ∨ rRep1 K x y H Q) ∨ rRepT K x y H Q ∨ rRep x y H Q
theorem opA_mul {X : Cx} : OpR X (binaryOp .Mult) (rMulA X.K) := OpR.or (OpR.or op_mul op_rep1) (OpR.or op_repT op_rep)
theorem RDs.rep {K : PySem.W.Frag} {G : Hp} {ι : List Addr} {xs : List D} {vs : List V} (r : RDs K G ι xs vs) : ∀ n, RDs K G ι (List.replicate n xs).flatten (List.replicate n vs).flatten
  | 0 => .nil
  | n + 1 => by
    rw [List.replicate_succ, List.replicate_succ, List.flatten_cons, List.flatten_cons]
    exact r.append (RDs.rep r n)
theorem s_mul {K : PySem.W.Frag} : Op2 K (rMulA K) mulA := by
  intro G ι H h x y d u v Q s rx ry e q
  have lists : ∀ k, y = .int k → (match lstOf h x with
    | some xs => if -(2 ^ 63) ≤ k ∧ k < 2 ^ 63 ∧ xs.length * k.toNat ≤ sizeLine then some (D.lst (List.replicate k.toNat xs).flatten) else none
    | none => none) = some d → rMulA K u v H Q := fun k hy e' => by
    subst hy
    cases ry
    split at e'
    · rename_i xs h1
      split at e'
      · rename_i c
        cases e'
        obtain ⟨a, vs, rfl, a1, a2⟩ := lst_rd s rx h1
        refine .inr (.inr ⟨a, k, vs, rfl, rfl, a1, c.1, c.2.1, by rw [a2.1]; exact c.2.2, fun p n => ?_⟩)
        have g := s.same_new (o := .lst (List.replicate k.toNat vs).flatten) n
        exact q _ _ _ g (Same.new n) (s.new n) (.lst' upd_same ((a2.rep _).up ⟨g, List.prefix_refl _⟩))
      · cases e'
    · cases e'
  cases ry with
  | int j =>
    cases rx with
    | int i =>
      have e : (if CMul i j then some (D.int (i * j)) else none) = some d := e
      split at e
      · rename_i c
        cases e
        exact .inl (.inl ⟨i, j, rfl, rfl, c, q G H _ (Same.refl _) (Same.refl _) s (.int _)⟩)
      · cases e
    | tup ha la ea =>
      rename_i a vs xs
      have up : SqT K H a vs := sqT_at (fun o w => s.s _ o w) ha
      have e : (if j = 1 then some (D.tup xs) else if xs.isEmpty = false ∧ 2 ≤ j ∧ j ≤ 1000 ∧ xs.length ≤ 1000 then some (D.tup (List.replicate j.toNat xs).flatten) else none) = some d := e
      split at e
      · rename_i c
        subst c
        cases e
        exact .inl (.inr ⟨a, vs, rfl, rfl, up, q G H _ (Same.refl _) (Same.refl _) s (.tup ha la ea)⟩)
      · split at e
        · rename_i c
          cases e
          refine .inr (.inl ⟨a, j, vs, rfl, rfl, up, fun z => by
            rw [z] at la
            have hx := List.eq_nil_of_length_eq_zero la.symm
            rw [hx] at c
            exact absurd c.1 (by decide), c.2.1, c.2.2.1, by rw [la]; exact c.2.2.2, fun p n => ?_⟩)
          have g := s.same_new (o := .tup (List.replicate j.toNat vs).flatten) n
          exact q _ _ _ g (Same.new n) (s.new n) (.tup' (SqT.of upd_same) ((RDs.rep ⟨la, ea⟩ _).up ⟨g, List.prefix_refl _⟩))
        · cases e
    | _ => exact lists j rfl e
  | _ => cases rx <;> cases e
/-! ### the same data -/
mutual
def toPW (go : Nat → Option PyData) : D → Option PyData
  | .non => some .none
  | .bl b => some (.bool b)
  | .int i => some (.int i)
  | .str x => some (.str x)
  | .tup xs => (toPs go xs).map .tuple
  | .lst xs => (toPs go xs).map .list
  | .scr xs => (toPs go xs).map .list
  | .ref k => go k
  | _ => none
def toPs (go : Nat → Option PyData) : List D → Option (List PyData)
  | [] => some []
  | x :: xs => match toPW go x, toPs go xs with
    | some p, some ps => some (p :: ps)
    | _, _ => none
end
def goN (h : List Ob) : Nat → Nat → Option PyData
  | 0, _ => none
  | m + 1, k => match h[k]? with
    | some (.lst xs) => (toPs (goN h m) xs).map .list
    | _ => none
def dataOf (h : List Ob) (d : D) : Option PyData := toPW (goN h 3) d
section
variable {K : PySem.W.Frag} {G H : Hp} {ι : List Addr} {h : List Ob} {go : Nat → Option PyData}
theorem dpAll {xs : List D} : ∀ {vs : List V} {ps : List PyData}, (∀ (i : Nat) d v, xs[i]? = some d → vs[i]? = some v → ∀ {p : PyData}, toPW go d = some p → Dp K H v p) → vs.length = xs.length → toPs go xs = some ps → DpAll K H vs ps := by
  induction xs with
  | nil =>
    intro vs ps _ r e
    unfold toPs at e
    cases e
    rw [List.eq_nil_of_length_eq_zero r]
    exact .nil
  | cons d xs ihl =>
    intro vs ps ih r e
    cases vs with
    | nil => cases r
    | cons v vs =>
      unfold toPs at e
      split at e
      · rename_i p ps' e1 e2
        cases e
        exact .cons (ih 0 d v rfl rfl e1) (ihl (fun i d' v' a b => ih (i + 1) d' v' (by simpa using a) (by simpa using b)) (by simpa using r) e2)
      · cases e
theorem RD.dp {d : D} {v : V} (r : RD K G ι d v) (s : Same G H) (hgo : ∀ (k : Nat) a p, ι[k]? = some a → go k = some p → Dp K H (.ref a) p) : ∀ {p : PyData}, toPW go d = some p → Dp K H v p := by
  induction r with
  | non =>
    intro p e
    unfold toPW at e
    cases e
    exact .non
  | bl b =>
    intro p e
    unfold toPW at e
    cases e
    exact .bl b
  | int i =>
    intro p e
    unfold toPW at e
    cases e
    exact .int i
  | str x =>
    intro p e
    unfold toPW at e
    cases e
    exact .str x
  | tup hh l q ih =>
    intro p e
    unfold toPW at e
    obtain ⟨ps, e1, rfl⟩ := Option.map_eq_some_iff.mp e
    exact .tup (sqT_at (fun o w => s _ o w) hh) (dpAll (fun i d v a b => ih i d v a b) l e1)
  | lst hh l q ih =>
    intro p e
    unfold toPW at e
    obtain ⟨ps, e1, rfl⟩ := Option.map_eq_some_iff.mp e
    exact .lst (SqL.of (s _ _ hh)) (dpAll (fun i d v a b => ih i d v a b) l e1)
  | scr hh l q ih =>
    intro p e
    unfold toPW at e
    obtain ⟨ps, e1, rfl⟩ := Option.map_eq_some_iff.mp e
    exact .lst (s.seq hh) (dpAll (fun i d v a b => ih i d v a b) l e1)
  | ref hk =>
    intro p e
    unfold toPW at e
    exact hgo _ _ _ hk e
  | _ =>
    intro p e
    unfold toPW at e
    cases e
theorem goN_dp (s : Hs K G ι H h) : ∀ (m k : Nat) (a : Addr) (p : PyData), ι[k]? = some a → goN h m k = some p → Dp K H (.ref a) p
  | 0, k, a, p, _, e => by cases e
  | m + 1, k, a, p, hk, e => by
    unfold goN at e
    split at e
    · rename_i xs hx
      obtain ⟨ps, e1, rfl⟩ := Option.map_eq_some_iff.mp e
      obtain ⟨vs, h1, h2⟩ := s.cell hk hx
      exact .lst (SqL.of h1) (dpAll (fun i d v a b => (h2.2 i d v a b).dp s.s (goN_dp s m)) h2.1 e1)
    · cases e
theorem data_dp {d : D} {v : V} {p : PyData} (s : Hs K G ι H h) (r : RD K G ι d v) (e : dataOf h d = some p) : Dp K H v p := r.dp s.s (goN_dp s 3) e
end
def eqF (h : List Ob) (x y : D) : Option Bool := match x, y with
  | .int i, .int j => some (decide (i = j))
  | .str i, .str j => some (decide (i = j))
  | .bl i, .bl j => some (decide (i = j))
  | x, y => match dataOf h x, dataOf h y with
    | some p, some q => if SeqAt.shaped p = true ∧ SeqAt.shaped q = true then some (PyData.eqv p q) else none
    | _, _ => none
def eqD (h : List Ob) (x y : D) : Option D := (eqF h x y).map .bl
def neD (h : List Ob) (x y : D) : Option D := (eqF h x y).map fun b => .bl (!b)
def rEqA (K : PySem.W.Frag) : R2 := fun x y H Q => rEq x y H Q ∨ rEqD K x y H Q
def rNeA (K : PySem.W.Frag) : R2 := fun x y H Q => rNe x y H Q ∨ rNeD K x y H Q
theorem s_eq {K : PySem.W.Frag} : Op2 K (rEqA K) eqD := by
  intro G ι H h x y d u v Q s rx ry e q
  have go : (match dataOf h x, dataOf h y with
    | some p, some q => if SeqAt.shaped p = true ∧ SeqAt.shaped q = true then some (PyData.eqv p q) else none
    | _, _ => none).map D.bl = some d → rEqA K u v H Q := fun e => by
    obtain ⟨b, e, rfl⟩ := Option.map_eq_some_iff.mp e
    split at e
    · rename_i p1 p2 h1 h2
      split at e
      · rename_i c
        cases e
        exact .inr ⟨p1, p2, data_dp s rx h1, data_dp s ry h2, c.1, c.2, q G H _ (Same.refl _) (Same.refl _) s (.bl _)⟩
      · cases e
    · cases e
  have one : ∀ {b : Bool}, scal u v = true → d = .bl b → decide (u = v) = b → rEqA K u v H Q := fun {b} c e1 e2 => by
    subst e1
    refine .inl ⟨c, ?_⟩
    rw [e2]
    exact q G H _ (Same.refl _) (Same.refl _) s (.bl _)
  cases rx with
  | int i =>
    cases ry with
    | int j =>
      cases e
      exact one rfl rfl (by simp)
    | _ => exact go e
  | str i =>
    cases ry with
    | str j =>
      cases e
      exact one rfl rfl (by simp)
    | _ => exact go e
  | bl i =>
    cases ry with
    | bl j =>
      cases e
      exact one rfl rfl (by simp)
    | _ => exact go e
  | _ => exact go e
theorem s_ne {K : PySem.W.Frag} : Op2 K (rNeA K) neD := by
  intro G ι H h x y d u v Q s rx ry e q
  have go : (match dataOf h x, dataOf h y with
    | some p, some q => if SeqAt.shaped p = true ∧ SeqAt.shaped q = true then some (PyData.eqv p q) else none
    | _, _ => none).map (fun b => D.bl (!b)) = some d → rNeA K u v H Q := fun e => by
    split at e
    · rename_i p1 p2 h1 h2
      split at e
      · rename_i c
        have ed : D.bl (!PyData.eqv p1 p2) = d := Option.some.inj e
        subst ed
        exact .inr ⟨p1, p2, data_dp s rx h1, data_dp s ry h2, c.1, c.2, q G H _ (Same.refl _) (Same.refl _) s (.bl _)⟩
      · cases e
    · cases e
  have one : ∀ {b : Bool}, scal u v = true → d = .bl (!b) → decide (u = v) = b → rNeA K u v H Q := fun {b} c e1 e2 => by
    subst e1
    refine .inl ⟨c, ?_⟩
    rw [e2]
    exact q G H _ (Same.refl _) (Same.refl _) s (.bl _)
  cases rx with
  | int i =>
    cases ry with
    | int j =>
      cases e
      exact one rfl rfl (by simp)
    | _ => exact go e
  | str i =>
    cases ry with
    | str j =>
      cases e
      exact one rfl rfl (by simp)
    | _ => exact go e
  | bl i =>
    cases ry with
    | bl j =>
      cases e
      exact one rfl rfl (by simp)
    | _ => exact go e
  | _ => exact go e
theorem opA_eq {X : Cx} (hu : X.A.units + 64 < cLine) : OpR X (compareOp .Eq) (rEqA X.K) := OpR.or op_eq (op_eqD hu)
theorem opA_ne {X : Cx} (hu : X.A.units + 64 < cLine) : OpR X (compareOp .NotEq) (rNeA X.K) := OpR.or op_ne (op_neD hu)
end Fv


set_option Elab.async false
set_option linter.all false
set_option maxRecDepth 100000
set_option maxHeartbeats 4000000
set_option autoImplicit false
namespace Fv
open PySem PySem.Spec PyProof.Rows L2 Bm
/-! ### flat things -/
def flatD : D → Bool
  | .non => true
  | .bl _ => true
  | .int _ => true
  | .str _ => true
  | _ => false
def dV : D → V
  | .bl b => .bl b
  | .int i => .int i
  | .str x => .str x
  | _ => .non
section
variable {K : PySem.W.Frag} {G H : Hp} {ι : List Addr} {h : List Ob}
theorem flat_rd {d : D} {v : V} (r : RD K G ι d v) (f : flatD d = true) : v = dV d ∧ flatV v = true := by
  cases r <;> first | exact ⟨rfl, rfl⟩ | cases f
theorem flats_rd {xs : List D} {vs : List V} (r : RDs K G ι xs vs) (f : xs.all flatD = true) : vs = xs.map dV ∧ vs.all flatV = true := by
  induction xs generalizing vs with
  | nil =>
    rw [r.inv_nil]
    exact ⟨rfl, rfl⟩
  | cons d xs ih =>
    obtain ⟨v, vs', rfl, r1, r2⟩ := r.inv_cons
    rw [List.all_cons, Bool.and_eq_true] at f
    obtain ⟨a1, a2⟩ := flat_rd r1 f.1
    obtain ⟨b1, b2⟩ := ih r2 f.2
    refine ⟨by rw [List.map_cons, ← b1, ← a1], ?_⟩
    rw [List.all_cons, a2, b2] <;> rfl
end
/-! ### is None -/
def isN : D → Bool
  | .non => true
  | _ => false
def isND (_ : List Ob) (x y : D) : Option D := if isN y then some (.bl (isN x)) else none
def isnotND (_ : List Ob) (x y : D) : Option D := if isN y then some (.bl (!isN x)) else none
section
variable {K : PySem.W.Frag}
theorem isN_rd {G : Hp} {ι : List Addr} {d : D} {v : V} (r : RD K G ι d v) : decide (v = .non) = isN d := by
  cases r <;> simp [isN]
theorem isN_non {G : Hp} {ι : List Addr} {d : D} {v : V} (r : RD K G ι d v) (e : isN d = true) : v = .non := by
  cases r <;> first | rfl | cases e
theorem s_isN : Op2 K (fun x y H Q => y = .non ∧ Q (.bl (decide (x = .non))) H) isND := by
  intro G ι H h x y d u v Q s rx ry e q
  unfold isND at e
  split at e
  · rename_i c
    cases e
    refine ⟨isN_non ry c, ?_⟩
    rw [isN_rd rx]
    exact q G H _ (Same.refl _) (Same.refl _) s (.bl _)
  · cases e
theorem s_notN : Op2 K (fun x y H Q => y = .non ∧ Q (.bl (!decide (x = .non))) H) isnotND := by
  intro G ι H h x y d u v Q s rx ry e q
  unfold isnotND at e
  split at e
  · rename_i c
    cases e
    refine ⟨isN_non ry c, ?_⟩
    rw [isN_rd rx]
    exact q G H _ (Same.refl _) (Same.refl _) s (.bl _)
  · cases e
end
/-! ### in -/
def inF (h : List Ob) (x y : D) : Option Bool := match y with
  | .str z => match x with
    | .str w => some (!(Builtin.Str.occurrences z w 0 z.length 1).isEmpty)
    | _ => none
  | y => match seqOf h y with
    | some ys => if flatD x = true ∧ ys.all flatD = true then some (ys.any fun z => eqV (dV z) (dV x)) else none
    | none => none
def inD (h : List Ob) (x y : D) : Option D := (inF h x y).map .bl
def notinD (h : List Ob) (x y : D) : Option D := match inF h x y with
  | some b => some (.bl (!b))
  | none => none
def rInA (K : PySem.W.Frag) : R2 := fun x y H Q => rIn K false x y H Q ∨ (∃ i j, x = .str i ∧ y = .str j ∧ Q (.bl (!(Builtin.Str.occurrences j i 0 j.length 1).isEmpty)) H)
def rNotInA (K : PySem.W.Frag) : R2 := fun x y H Q => rIn K true x y H Q ∨ (∃ i j, x = .str i ∧ y = .str j ∧ Q (.bl (!(!(Builtin.Str.occurrences j i 0 j.length 1).isEmpty))) H)
theorem opA_in {X : Cx} : OpR X (compareOp .In) (rInA X.K) := OpR.or op_in_seq op_in_str
theorem opA_notin {X : Cx} : OpR X (compareOp .NotIn) (rNotInA X.K) := OpR.or op_notIn_seq op_notin_str
section
variable {K : PySem.W.Frag} {G H : Hp} {ι : List Addr} {h : List Ob}
theorem in_rd {x y : D} {u v : V} {b : Bool} (s : Hs K G ι H h) (rx : RD K G ι x u) (ry : RD K G ι y v) (e : inF h x y = some b) : (∃ p xs, v = .ref p ∧ (SqL K H p xs ∨ SqT K H p xs) ∧ flatV u = true ∧ xs.all flatV = true ∧ inV u xs = b) ∨
    ∃ i j, u = .str i ∧ v = .str j ∧ (!(Builtin.Str.occurrences j i 0 j.length 1).isEmpty) = b := by
  have go : (match seqOf h y with
    | some ys => if flatD x = true ∧ ys.all flatD = true then some (ys.any fun z => eqV (dV z) (dV x)) else none
    | none => none) = some b → (∃ p xs, v = .ref p ∧ (SqL K H p xs ∨ SqT K H p xs) ∧ flatV u = true ∧ xs.all flatV = true ∧ inV u xs = b) := fun e => by
    split at e
    · rename_i ys hy
      split at e
      · rename_i c
        have eb := Option.some.inj e
        obtain ⟨a, vs, rfl, h1, h2⟩ := seq_rd s ry hy
        obtain ⟨a1, a2⟩ := flat_rd rx c.1
        obtain ⟨b1, b2⟩ := flats_rd h2 c.2
        refine ⟨a, vs, rfl, h1, a2, b2, ?_⟩
        rw [← eb, a1, b1]
        unfold inV
        rw [List.any_map]
        rfl
      · cases e
    · cases e
  cases ry with
  | str z =>
    cases rx with
    | str w => exact .inr ⟨w, z, rfl, rfl, Option.some.inj e⟩
    | _ => cases e
  | _ => exact .inl (go e)
theorem s_in : Op2 K (rInA K) inD := by
  intro G ι H h x y d u v Q s rx ry e q
  obtain ⟨b, e1, rfl⟩ := Option.map_eq_some_iff.mp e
  rcases in_rd s rx ry e1 with ⟨p, xs, a1, a2, a3, a4, a5⟩ | ⟨i, j, a1, a2, a3⟩
  · refine .inl ⟨p, xs, a1, a2, a3, a4, ?_⟩
    show Q (.bl (inV u xs)) H
    rw [a5]
    exact q G H _ (Same.refl _) (Same.refl _) s (.bl _)
  · refine .inr ⟨i, j, a1, a2, ?_⟩
    rw [a3]
    exact q G H _ (Same.refl _) (Same.refl _) s (.bl _)
theorem s_notin : Op2 K (rNotInA K) notinD := by
  intro G ι H h x y d u v Q s rx ry e q
  unfold notinD at e
  split at e
  · rename_i b hb
    have ed := Option.some.inj e
    subst ed
    rcases in_rd s rx ry hb with ⟨p, xs, a1, a2, a3, a4, a5⟩ | ⟨i, j, a1, a2, a3⟩
    · refine .inl ⟨p, xs, a1, a2, a3, a4, ?_⟩
      show Q (.bl (!inV u xs)) H
      rw [a5]
      exact q G H _ (Same.refl _) (Same.refl _) s (.bl _)
    · refine .inr ⟨i, j, a1, a2, ?_⟩
      rw [a3]
      exact q G H _ (Same.refl _) (Same.refl _) s (.bl _)
  · cases e
end
/-! ### comparisons, tests -/
def bM (f : M D) : M Bool := bnd f fun d e => match d with
  | .bl b => .ok b e
  | _ => .stuck
def andM (f g : M Bool) : M Bool := bnd f fun b => if b then g else ret false
def orM (f g : M Bool) : M Bool := bnd f fun b => if b then ret true else g
def notM (f : M Bool) : M Bool := bnd f fun b => ret (!b)
def andV (f g : M D) : M D := bnd (bM f) fun b => if b then g else ret (.bl false)
def orV (f g : M D) : M D := bnd (bM f) fun b => if b then ret (.bl true) else g
def notV (f : M D) : M D := bnd (bM f) fun b => ret (.bl (!b))
def ifM (c : M Bool) (f g : M D) : M D := bnd c fun b => if b then f else g
section
variable {X : Cx} {C : Ct} {a b e : Expr} {pos : Pos}
theorem v_cmp {op : CmpOp} {r : R2} {g : List Ob → D → D → Option D} {fa fb : M D} (o : OpR X (compareOp op) r) (s : Op2 C.K r g) (ha : PE X a (tF C fa)) (hb : PE X b (tF C fb)) (hm : behindInMarks op b = false) : PE X (.Compare a [op] [b] pos) (tF C (e2 g fa fb)) :=
  imE (pe_cmpR o ha hb hm) fun σ H Q h => im2 s σ H Q h
theorem imB {f : M D} (σ : L2.St) (H : Hp) (Q : Bool → Hp → Prop) (h : tFB C (bM f) σ H Q) : tB (tF C f) σ H Q := by
  obtain ⟨G, ι, en, k, h⟩ := h
  refine ⟨G, ι, en, k, PX.imp h.bnd fun d e1 G1 ι1 H1 u1 k1 q1 v r => ?_⟩
  cases r with
  | bl b => exact ⟨b, rfl, PX.now (a := b) q1 k1⟩
  | _ => exact q1.elim
theorem v_test {f : M D} (p : PE X e (tF C f)) (he : ∀ whole, isTrue e X.env whole = (do let v ← whole; standAt e.pos; holding [v] (truthy v)) := by intro _; rfl) : PT X e (tFB C (bM f)) := imT (pt_val p he) imB
/-- a comparison as a test -/
theorem v_tcmp {op : CmpOp} {r : R2} {g : List Ob → D → D → Option D} {fa fb : M D} (o : OpR X (compareOp op) r) (s : Op2 C.K r g) (ha : PE X a (tF C fa)) (hb : PE X b (tF C fb)) (hm : behindInMarks op b = false) : PT X (.Compare a [op] [b] pos) (tFB C (bM (e2 g fa fb))) :=
  imT (pt_cmpR o ha hb hm) fun σ H Q h => im2 s σ H _ (by
    obtain ⟨G, ι, en, k, h⟩ := h
    refine ⟨G, ι, en, k, PX.imp h.bnd fun d e1 G1 ι1 H1 u1 k1 q1 v r => ?_⟩
    cases r with
    | bl b => exact ⟨b, rfl, PX.now (a := b) q1 k1⟩
    | _ => exact q1.elim)
theorem imAnd {f g : M Bool} (σ : L2.St) (H : Hp) (Q : Bool → Hp → Prop) (h : tFB C (andM f g) σ H Q) : tAnd (tFB C f) (tFB C g) σ H Q := by
  obtain ⟨G, ι, en, k, h⟩ := h
  refine ⟨G, ι, en, k, PX.imp h.bnd fun c e1 G1 ι1 H1 u1 k1 q1 => ?_⟩
  cases c with
  | true => exact iteT ⟨G1, ι1, e1, k1, q1⟩
  | false => exact iteF (PX.now (a := false) q1 k1)
theorem imOr {f g : M Bool} (σ : L2.St) (H : Hp) (Q : Bool → Hp → Prop) (h : tFB C (orM f g) σ H Q) : tOr (tFB C f) (tFB C g) σ H Q := by
  obtain ⟨G, ι, en, k, h⟩ := h
  refine ⟨G, ι, en, k, PX.imp h.bnd fun c e1 G1 ι1 H1 u1 k1 q1 => ?_⟩
  cases c with
  | true => exact iteT (PX.now (a := true) q1 k1)
  | false => exact iteF ⟨G1, ι1, e1, k1, q1⟩
theorem imW {t t' : TT} (h : PW X e t) (i : ∀ σ H Q, t' σ H Q → t σ H Q) : PW X e t' := ⟨fun w pins s σ H Q I q => h.run w pins s σ H Q I (i σ H Q q)⟩
theorem w_and1 {f : M Bool} (ha : PT X a (tFB C f)) : PW X (.BoolOp .And [a] pos) (tFB C f) := pw_and1 ha
theorem w_or1 {f : M Bool} (ha : PT X a (tFB C f)) : PW X (.BoolOp .Or [a] pos) (tFB C f) := pw_or1 ha
theorem w_and {rest : List Expr} {f g : M Bool} (ha : PT X a (tFB C f)) (hb : PW X (.BoolOp .And (b :: rest) pos) (tFB C g)) : PW X (.BoolOp .And (a :: b :: rest) pos) (tFB C (andM f g)) := imW (pw_and ha hb) imAnd
theorem w_or {rest : List Expr} {f g : M Bool} (ha : PT X a (tFB C f)) (hb : PW X (.BoolOp .Or (b :: rest) pos) (tFB C g)) : PW X (.BoolOp .Or (a :: b :: rest) pos) (tFB C (orM f g)) := imW (pw_or ha hb) imOr
theorem t_not {f : M Bool} (ha : PT X a (tFB C f)) : PT X (.UnaryOp .Not a pos) (tFB C (notM f)) := imT (pt_not ha) fun σ H Q h => by
  obtain ⟨G, ι, en, k, h⟩ := h
  exact ⟨G, ι, en, k, PX.imp h.bnd fun c e1 G1 ι1 H1 u1 k1 q1 => PX.now (a := !c) q1 k1⟩
def tIfB (c f g : M Bool) : M Bool := bnd c fun b => if b then f else g
theorem t_if {c : Expr} {fc f g : M Bool} (hc : PT X c (tFB C fc)) (ha : PT X a (tFB C f)) (hb : PT X b (tFB C g)) : PT X (.IfExp c a b pos) (tFB C (tIfB fc f g)) := imT (pt_ifExp hc ha hb) fun σ H Q h => by
  obtain ⟨G, ι, en, k, h⟩ := h
  refine ⟨G, ι, en, k, PX.imp h.bnd fun c e1 G1 ι1 H1 u1 k1 q1 => ?_⟩
  cases c with
  | true => exact iteT ⟨G1, ι1, e1, k1, q1⟩
  | false => exact iteF ⟨G1, ι1, e1, k1, q1⟩
theorem v_one {op : BoolOp} {f : M D} (p : PE X a (tF C f)) : PE X (.BoolOp op [a] pos) (tF C f) := pe_one p
theorem PX.bM {G : Hp} {ι : List Addr} {σ : L2.St} {α : Type} {f : M D} {g : Bool → M α} {en : En} {k : α → En → Hp → List Addr → Hp → Prop} (h : PX C G ι σ (Fv.bnd (Fv.bM f) g en) k) : PX C G ι σ (f en) fun d e1 G1 ι1 H1 => ∀ v, RD C.K G1 ι1 d v → ∃ b, v = .bl b ∧ PX C G1 ι1 σ (g b e1) k :=
  PX.imp (PX.bnd (PX.bnd h |>.imp fun _ _ _ _ _ _ _ z => z)) fun d e1 G1 ι1 H1 u1 k1 q1 v r => by
    cases r with
    | bl b => exact ⟨b, rfl, PX.now (a := b) q1 k1⟩
    | _ => exact q1.elim
theorem v_and {rest : List Expr} {f g : M D} (ha : PE X a (tF C f)) (hb : PE X (.BoolOp .And (b :: rest) pos) (tF C g)) : PE X (.BoolOp .And (a :: b :: rest) pos) (tF C (andV f g)) := imE (pe_and ha hb) fun σ H Q h => by
  obtain ⟨G, ι, en, k, h⟩ := h
  refine ⟨G, ι, en, k, PX.imp (PX.bM h) fun d e1 G1 ι1 H1 u1 k1 q1 v r => ?_⟩
  obtain ⟨b, rfl, q⟩ := q1 v r
  refine ⟨b, rfl, ?_⟩
  cases b with
  | true => exact iteT ⟨G1, ι1, e1, k1, q⟩
  | false => exact iteF (PX.now (a := D.bl false) q k1 _ (.bl _))
theorem v_or {rest : List Expr} {f g : M D} (ha : PE X a (tF C f)) (hb : PE X (.BoolOp .Or (b :: rest) pos) (tF C g)) : PE X (.BoolOp .Or (a :: b :: rest) pos) (tF C (orV f g)) := imE (pe_or ha hb) fun σ H Q h => by
  obtain ⟨G, ι, en, k, h⟩ := h
  refine ⟨G, ι, en, k, PX.imp (PX.bM h) fun d e1 G1 ι1 H1 u1 k1 q1 v r => ?_⟩
  obtain ⟨b, rfl, q⟩ := q1 v r
  refine ⟨b, rfl, ?_⟩
  cases b with
  | true => exact iteT (PX.now (a := D.bl true) q k1 _ (.bl _))
  | false => exact iteF ⟨G1, ι1, e1, k1, q⟩
theorem v_not {f : M D} (ha : PE X a (tF C f)) : PE X (.UnaryOp .Not a pos) (tF C (notV f)) := imE (pe_not ha) fun σ H Q h => by
  obtain ⟨G, ι, en, k, h⟩ := h
  refine ⟨G, ι, en, k, PX.imp (PX.bM h) fun d e1 G1 ι1 H1 u1 k1 q1 v r => ?_⟩
  obtain ⟨b, rfl, q⟩ := q1 v r
  exact ⟨b, rfl, PX.now (a := D.bl (!b)) q k1 _ (.bl _)⟩
theorem v_if {c : Expr} {fc : M Bool} {f g : M D} (hc : PT X c (tFB C fc)) (ha : PE X a (tF C f)) (hb : PE X b (tF C g)) : PE X (.IfExp c a b pos) (tF C (ifM fc f g)) := imE (pe_ifExp hc ha hb) fun σ H Q h => by
  obtain ⟨G, ι, en, k, h⟩ := h
  refine ⟨G, ι, en, k, PX.imp h.bnd fun c e1 G1 ι1 H1 u1 k1 q1 => ?_⟩
  cases c with
  | true => exact iteT ⟨G1, ι1, e1, k1, q1⟩
  | false => exact iteF ⟨G1, ι1, e1, k1, q1⟩
/-! ### arguments, tuples, lists -/
def nilM : M (List D) := ret []
def consM (f : M D) (g : M (List D)) : M (List D) := bnd f fun x => bnd g fun xs => ret (x :: xs)
theorem a_nil : PA X [] (tFA C nilM) := imA pa_nil fun σ H Q h => by
  obtain ⟨G, ι, en, k, h⟩ := h
  exact PX.now (a := ([] : List D)) h k [] .nil
theorem imCons {f : M D} {g : M (List D)} (σ : L2.St) (H : Hp) (Q : List V → Hp → Prop) (h : tFA C (consM f g) σ H Q) : tCons (tF C f) (tFA C g) σ H Q := by
  obtain ⟨G, ι, en, k, h⟩ := h
  refine ⟨G, ι, en, k, PX.imp h.bnd fun x e1 G1 ι1 H1 u1 k1 q1 v r => ⟨G1, ι1, e1, k1, PX.imp q1.bnd fun xs e2 G2 ι2 H2 u2 k2 q2 vs rs => ?_⟩⟩
  exact PX.now (a := x :: xs) q2 k2 _ (.cons (r.up u2) rs)
theorem a_cons {es : List Expr} {f : M D} {g : M (List D)} (ha : PE X e (tF C f)) (hr : PA X es (tFA C g)) (hs : starEach (e :: es) X.env = (false, eval e X.env) :: starEach es X.env := by rfl) : PA X (e :: es) (tFA C (consM f g)) := imA (pa_cons ha hr hs) imCons
def tupM (f : M (List D)) : M D := bnd f fun ds => lft fun _ => if ds.length ≤ 1000 then some (.tup ds) else none
theorem lim {n : Nat} (h : n ≤ 1000) : n ≤ sizeLine := Nat.le_trans h (by decide)
theorem v_tup {es : List Expr} {x1} {f : M (List D)} (h : PA X es (tFA C f)) : PE X (.Tuple es x1 pos) (tF C (tupM f)) := imE (pe_tup h) fun σ H Q h => by
  obtain ⟨G, ι, en, k, h⟩ := h
  refine ⟨G, ι, en, k, PX.imp h.bnd fun ds e1 G1 ι1 H1 u1 k1 q1 vs r => ?_⟩
  obtain ⟨d, hd, q⟩ := q1.lft
  split at hd
  · rename_i hl
    cases hd
    refine ⟨by rw [r.1]; exact lim hl, fun p n => ?_⟩
    exact q _ _ _ (up_new (k1.hs.gnone n)) (k1.new n) _ (.tup' (SqT.of upd_same) (r.up (up_new (k1.hs.gnone n))))
  · cases hd
def lstM (f : M (List D)) : M Ob := bnd f fun ds => lft fun _ => if ds.length ≤ 1000 then some (.lst ds) else none
theorem o_lst {es : List Expr} {f : M (List D)} (h : PA X es (tFA C f)) : PE X (.List es pos) (tFO C (lstM f)) := imE (pe_lst h) fun σ H Q h => by
  obtain ⟨G, ι, en, k, h⟩ := h
  refine ⟨G, ι, en, k, PX.imp h.bnd fun ds e1 G1 ι1 H1 u1 k1 q1 vs r => ?_⟩
  obtain ⟨d, hd, q⟩ := q1.lft
  split at hd
  · rename_i hl
    cases hd
    refine ⟨by rw [r.1]; exact lim hl, fun p n => ?_⟩
    exact q _ _ _ Up.refl (k1.temp n) p (k1.hs.gnone n) (k1.hs.not_mem n) ⟨vs, upd_same, r⟩
  · cases hd
end
end Fv


set_option Elab.async false
set_option linter.all false
set_option maxRecDepth 100000
set_option maxHeartbeats 4000000
set_option autoImplicit false
namespace Fv
open PySem PySem.Spec PyProof.Rows L2 Bm
/-! ### calls of built-ins -/
def cN (g : List Ob → List D → Option D) (f : M (List D)) : M D := bnd f fun ds => lft fun h => g h ds
def cO (g : List Ob → List D → Option Ob) (f : M (List D)) : M Ob := bnd f fun ds => lft fun h => g h ds
section
variable {X : Cx} {C : Ct} {e : Expr}
theorem v_b {r : List V → Hp → VK → Prop} {g : List Ob → List D → Option D} {f : M (List D)} (s : OpN C.K r g) (p : PE X e (tCB r (tFA C f))) : PE X e (tF C (cN g f)) := imE p fun σ H Q h => by
  obtain ⟨G, ι, en, k, h⟩ := h
  refine ⟨G, ι, en, k, PX.imp h.bnd fun ds e1 G1 ι1 H1 u1 k1 q1 vs r => ?_⟩
  obtain ⟨d, hd, q⟩ := q1.lft
  exact s G1 ι1 H1 e1.h ds d vs Q k1.hs r hd fun G' H' w g1 s1 hs r => q G' ι1 H' ⟨g1, List.prefix_refl _⟩ (k1.grow g1 s1 hs) w r
theorem o_b {r : List V → Hp → VK → Prop} {g : List Ob → List D → Option Ob} {f : M (List D)} (s : OpNO C.K r g) (p : PE X e (tCB r (tFA C f))) : PE X e (tFO C (cO g f)) := imE p fun σ H Q h => by
  obtain ⟨G, ι, en, k, h⟩ := h
  refine ⟨G, ι, en, k, PX.imp h.bnd fun ds e1 G1 ι1 H1 u1 k1 q1 vs r => ?_⟩
  obtain ⟨o, hd, q⟩ := q1.lft
  exact s G1 ι1 H1 e1.h ds o vs Q k1.hs r hd fun H' a s1 hs n m ob => q G1 ι1 H' Up.refl (k1.grow (Same.refl _) s1 hs) a n m ob
end
section
variable {K : PySem.W.Frag} {G H : Hp} {ι : List Addr} {h : List Ob}
theorem RDs.one_of {d : D} {vs : List V} (r : RDs K G ι [d] vs) : ∃ v, vs = [v] ∧ RD K G ι d v := by
  obtain ⟨v, vs', rfl, r1, r2⟩ := r.inv_cons
  rw [r2.inv_nil]
  exact ⟨v, rfl, r1⟩
theorem RDs.two_of {d e : D} {vs : List V} (r : RDs K G ι [d, e] vs) : ∃ v w, vs = [v, w] ∧ RD K G ι d v ∧ RD K G ι e w := by
  obtain ⟨v, vs', rfl, r1, r2⟩ := r.inv_cons
  obtain ⟨w, rfl, r3⟩ := r2.one_of
  exact ⟨v, w, rfl, r1, r3⟩
/-- len -/
def lenD (h : List Ob) : List D → Option D
  | [.str z] => if z.length ≤ sizeLine then some (.int z.length) else none
  | [d] => (seqOf h d).map fun xs => .int xs.length
  | _ => none
theorem s_len : OpN K (fun xs H Q => ∃ x n, xs = [x] ∧ LenV K x H n ∧ Q (.int n) H) lenD := by
  intro G ι H h xs d vs Q s rs e q
  match xs, rs, e with
  | [], _, e => cases e
  | [x], rs, e =>
    obtain ⟨v, rfl, r⟩ := rs.one_of
    have go : (seqOf h x).map (fun xs => D.int xs.length) = some d → ∃ x n, [v] = [x] ∧ LenV K x H n ∧ Q (.int n) H := fun e => by
      obtain ⟨ys, e1, rfl⟩ := Option.map_eq_some_iff.mp e
      obtain ⟨a, us, rfl, h1, h2⟩ := seq_rd s r e1
      refine ⟨.ref a, us.length, rfl, ?_, ?_⟩
      · rcases h1 with h1 | h1
        · exact .inl ⟨us, h1, rfl⟩
        · exact .inr ⟨us, h1, rfl⟩
      · rw [h2.1]
        exact q G H _ (Same.refl _) (Same.refl _) s (.int _)
    cases r with
    | str z =>
      have e : (if z.length ≤ sizeLine then some (D.int z.length) else none) = some d := e
      split at e
      · rename_i c
        cases e
        exact ⟨.str z, z.length, rfl, ⟨c, rfl⟩, q G H _ (Same.refl _) (Same.refl _) s (.int _)⟩
      · cases e
    | _ => exact go e
  | x :: y :: r, _, e => cases x <;> cases e
/-- list(xs), a new one -/
def listD (h : List Ob) : List D → Option Ob
  | [d] => (seqOf h d).map .lst
  | _ => none
theorem s_list : OpNO K (fun xs H Q => ∃ p ys, xs = [.ref p] ∧ (SqL K H p ys ∨ SqT K H p ys) ∧ ∀ l, H l = none → Q (.ref l) (upd H l (.lst ys))) listD := by
  intro G ι H h xs o vs Q s rs e q
  match xs, rs, e with
  | [], _, e => cases e
  | [x], rs, e =>
    obtain ⟨v, rfl, r⟩ := rs.one_of
    obtain ⟨ys, e1, rfl⟩ := Option.map_eq_some_iff.mp e
    obtain ⟨a, us, rfl, h1, h2⟩ := seq_rd s r e1
    exact ⟨a, us, rfl, h1, fun l n => q _ l (Same.new n) (s.temp n) (s.gnone n) (s.not_mem n) ⟨us, upd_same, h2⟩⟩
  | x :: y :: r, _, e => cases e
/-- tuple(xs) -/
def tupleD (h : List Ob) : List D → Option D
  | [d] => (seqOf h d).map .tup
  | _ => none
theorem tup_rd {d : D} {v : V} {xs : List D} (s : Hs K G ι H h) (r : RD K G ι d v) (e : seqOf h d = some xs) : ∃ a vs, v = .ref a ∧ (SqL K H a vs ∨ (SqT K H a vs ∧ SqT K G a vs)) ∧ RDs K G ι xs vs := by
  cases r with
  | tup hh l q =>
    cases e
    exact ⟨_, _, rfl, .inr ⟨sqT_at (fun o z => s.s _ o z) hh, hh⟩, l, q⟩
  | lst hh l q =>
    obtain ⟨a, vs, e1, h1, h2⟩ := seq_rd s (RD.lst hh l q) e
    cases e
    exact ⟨_, _, rfl, .inl (SqL.of (s.s _ _ hh)), l, q⟩
  | scr hh l q =>
    cases e
    exact ⟨_, _, rfl, .inl (s.s.seq hh), l, q⟩
  | @ref k a hk =>
    have e : (match h[k]? with
      | some (.lst xs) => some xs
      | _ => none) = some xs := e
    split at e
    · rename_i ys hy
      cases e
      obtain ⟨vs, h1, h2⟩ := s.cell hk hy
      exact ⟨a, vs, rfl, .inl (SqL.of h1), h2⟩
    · cases e
  | _ => cases e
theorem s_tuple : OpN K (fun xs H Q => ∃ p ys, xs = [.ref p] ∧ ((SqL K H p ys ∧ ∀ l, H l = none → Q (.ref l) (upd H l (.tup ys))) ∨ (SqT K H p ys ∧ Q (.ref p) H))) tupleD := by
  intro G ι H h xs d vs Q s rs e q
  match xs, rs, e with
  | [], _, e => cases e
  | [x], rs, e =>
    obtain ⟨v, rfl, r⟩ := rs.one_of
    obtain ⟨ys, e1, rfl⟩ := Option.map_eq_some_iff.mp e
    obtain ⟨a, us, rfl, h1, h2⟩ := tup_rd s r e1
    refine ⟨a, us, rfl, ?_⟩
    rcases h1 with h1 | ⟨h1, h3⟩
    · refine .inl ⟨h1, fun l n => ?_⟩
      have g := s.same_new (o := .tup us) n
      exact q _ _ _ g (Same.new n) (s.new n) (.tup' (SqT.of upd_same) (h2.up ⟨g, List.prefix_refl _⟩))
    · exact .inr ⟨h1, q G H _ (Same.refl _) (Same.refl _) s (.tup' h3 h2)⟩
  | x :: y :: r, _, e => cases e
/-- int(x), str(n), min, max, divmod -/
def intD (_ : List Ob) : List D → Option D
  | [.int i] => some (.int i)
  | [.bl k] => some (.int (if k then 1 else 0))
  | _ => none
theorem s_int : OpN K (fun xs H Q => (∃ i, xs = [.int i] ∧ Q (.int i) H) ∨ ∃ k, xs = [.bl k] ∧ Q (.int (if k then 1 else 0)) H) intD := by
  intro G ι H h xs d vs Q s rs e q
  match xs, rs, e with
  | [], _, e => cases e
  | [x], rs, e =>
    obtain ⟨v, rfl, r⟩ := rs.one_of
    cases r with
    | int i =>
      cases e
      exact .inl ⟨i, rfl, q G H _ (Same.refl _) (Same.refl _) s (.int _)⟩
    | bl k =>
      cases e
      exact .inr ⟨k, rfl, q G H _ (Same.refl _) (Same.refl _) s (.int _)⟩
    | _ => cases e
  | x :: y :: r, _, e => cases x <;> cases e
def strD (_ : List Ob) : List D → Option D
  | [.int i] => if i.natAbs.log2 < 1920 then some (.str (toString i)) else none
  | _ => none
theorem s_str : OpN K (fun xs H Q => ∃ i, xs = [.int i] ∧ i.natAbs.log2 < 1920 ∧ Q (.str (toString i)) H) strD := by
  intro G ι H h xs d vs Q s rs e q
  match xs, rs, e with
  | [], _, e => cases e
  | [x], rs, e =>
    obtain ⟨v, rfl, r⟩ := rs.one_of
    cases r with
    | int i =>
      have e : (if i.natAbs.log2 < 1920 then some (D.str (toString i)) else none) = some d := e
      split at e
      · rename_i c
        cases e
        exact ⟨i, rfl, c, q G H _ (Same.refl _) (Same.refl _) s (.str _)⟩
      · cases e
    | _ => cases e
  | x :: y :: r, _, e => cases x <;> cases e
def two (g : Int → Int → Option D) (_ : List Ob) : List D → Option D
  | [.int i, .int j] => g i j
  | _ => none
theorem two_of {g : Int → Int → Option D} {xs : List D} {vs : List V} {d : D} (rs : RDs K G ι xs vs) (e : two g h xs = some d) : ∃ i j, vs = [.int i, .int j] ∧ g i j = some d := by
  unfold two at e
  split at e
  · rename_i i j
    obtain ⟨v, w, rfl, r1, r2⟩ := rs.two_of
    cases r1
    cases r2
    exact ⟨i, j, rfl, e⟩
  · cases e
def maxD := two fun i j => some (.int (if j > i then j else i))
def minD := two fun i j => some (.int (if j < i then j else i))
theorem s_max : OpN K (fun xs H Q => ∃ i j, xs = [.int i, .int j] ∧ Q (.int (if j > i then j else i)) H) maxD := by
  intro G ι H h xs d vs Q s rs e q
  obtain ⟨i, j, rfl, e⟩ := two_of rs e
  cases e
  exact ⟨i, j, rfl, q G H _ (Same.refl _) (Same.refl _) s (.int _)⟩
theorem s_min : OpN K (fun xs H Q => ∃ i j, xs = [.int i, .int j] ∧ Q (.int (if j < i then j else i)) H) minD := by
  intro G ι H h xs d vs Q s rs e q
  obtain ⟨i, j, rfl, e⟩ := two_of rs e
  cases e
  exact ⟨i, j, rfl, q G H _ (Same.refl _) (Same.refl _) s (.int _)⟩
def divmodD := two fun i j => if 0 < j ∧ j < 1073741824 then some (.tup [.int (i / j), .int (i % j)]) else none
theorem s_divmod : OpN K (fun xs H Q => ∃ i j, xs = [.int i, .int j] ∧ CDiv i j ∧ ∀ p, H p = none → Q (.ref p) (upd H p (.tup [.int (i / j), .int (i % j)]))) divmodD := by
  intro G ι H h xs d vs Q s rs e q
  obtain ⟨i, j, rfl, e⟩ := two_of rs e
  split at e
  · rename_i c
    cases e
    refine ⟨i, j, rfl, c, fun p n => ?_⟩
    exact q _ _ _ (s.same_new n) (Same.new n) (s.new n) (.tup' (SqT.of upd_same) (.cons (.int _) (.one (.int _))))
  · cases e
/-- sum of whole numbers in a list or tuple -/
def intsOf : List D → Option (List Int)
  | [] => some []
  | .int i :: r => (intsOf r).map (i :: ·)
  | _ :: _ => none
theorem ints_rd : ∀ {xs : List D} {vs : List V} {ns : List Int}, RDs K G ι xs vs → intsOf xs = some ns → vs = ns.map V.int := by
  intro xs
  induction xs with
  | nil =>
    intro vs ns r e
    cases e
    exact r.inv_nil
  | cons d xs ih =>
    intro vs ns r e
    obtain ⟨v, vs', rfl, r1, r2⟩ := r.inv_cons
    cases r1 with
    | int i =>
      obtain ⟨ms, e1, rfl⟩ := Option.map_eq_some_iff.mp (show (intsOf xs).map (i :: ·) = some ns from e)
      rw [ih r2 e1] <;> rfl
    | _ => cases e
def sumD (h : List Ob) : List D → Option D
  | [d] => match lstOf h d with
    | some xs => (intsOf xs).map fun ns => .int ns.sum
    | none => none
  | _ => none
theorem s_sum : OpN K (rSum K) sumD := by
  intro G ι H h xs d vs Q s rs e q
  match xs, rs, e with
  | [], _, e => cases e
  | [x], rs, e =>
    obtain ⟨v, rfl, r⟩ := rs.one_of
    have e : (match lstOf h x with
      | some xs => (intsOf xs).map fun ns => D.int ns.sum
      | none => none) = some d := e
    split at e
    · rename_i ys hy
      obtain ⟨ns, e1, rfl⟩ := Option.map_eq_some_iff.mp e
      obtain ⟨a, us, rfl, h1, h2⟩ := lst_rd s r hy
      rw [ints_rd h2 e1] at h1
      exact ⟨a, ns, rfl, SqL.of h1, q G H _ (Same.refl _) (Same.refl _) s (.int _)⟩
    · cases e
  | x :: y :: r, _, e => cases e
/-! ### isinstance -/
def kdOf (h : List Ob) : D → Option String
  | .non => some "NoneType"
  | .bl _ => some "bool"
  | .int _ => some "int"
  | .str _ => some "str"
  | .lst _ => some "list"
  | .scr _ => some "list"
  | .tup _ => some "tuple"
  | .ref k => match h[k]? with
    | some (.lst _) => some "list"
    | _ => none
  | _ => none
theorem kd_rd {d : D} {v : V} {n : String} (s : Hs K G ι H h) (r : RD K G ι d v) (e : kdOf h d = some n) : Kd K H v n := by
  cases r with
  | non => cases e; exact .non
  | bl b => cases e; exact .bl b
  | int i => cases e; exact .int i
  | str x => cases e; exact .str x
  | lst hh l q => cases e; exact .lst (SqL.of (s.s _ _ hh))
  | scr hh l q => cases e; exact .lst (s.s.seq hh)
  | tup hh l q => cases e; exact .tup (sqT_at (fun o z => s.s _ o z) hh)
  | @ref k a hk =>
    have e : (match h[k]? with
      | some (.lst _) => some "list"
      | _ => none) = some n := e
    split at e
    · rename_i ys hy
      cases e
      obtain ⟨vs, h1, h2⟩ := s.cell hk hy
      exact .lst (SqL.of h1)
    · cases e
  | _ => cases e
def isiNames : List String := ["int", "bool", "str", "list", "tuple"]
def isiD (h : List Ob) : List D → Option D
  | [x, .typ c] => if c ∈ isiNames then (kdOf h x).map fun n => .bl (isiB n c) else none
  | _ => none
theorem s_isi : OpN K (rIsi K) isiD := by
  intro G ι H h xs d vs Q s rs e q
  unfold isiD at e
  split at e
  · rename_i x c
    split at e
    · rename_i hc
      obtain ⟨n, e1, rfl⟩ := Option.map_eq_some_iff.mp e
      obtain ⟨v, w, rfl, r1, r2⟩ := rs.two_of
      cases r2
      exact isi_ok (kd_rd s r1 e1) hc (q G H _ (Same.refl _) (Same.refl _) s (.bl _))
    · cases e
  · cases e
end
/-! ### unary minus -/
def negM (f : M D) : M D := bnd f fun d => lft fun _ => match d with
  | .int i => some (.int (-i))
  | _ => none
theorem v_neg {X : Cx} {C : Ct} {a : Expr} {pos : Pos} {f : M D} (p : PE X a (tF C f)) : PE X (.UnaryOp .USub a pos) (tF C (negM f)) := imE (pe_un un_neg p) fun σ H Q h => by
  obtain ⟨G, ι, en, k, h⟩ := h
  refine ⟨G, ι, en, k, PX.imp h.bnd fun d e1 G1 ι1 H1 u1 k1 q1 v r => ?_⟩
  obtain ⟨x, hx, q⟩ := q1.lft
  cases r with
  | int i =>
    cases hx
    exact ⟨i, rfl, PX.now (a := D.int (-i)) q k1 _ (.int _)⟩
  | _ => cases hx
/-! ### a < b < c -/
def chM (g g' : List Ob → D → D → Option D) (fa fb fc : M D) : M D := bnd fa fun x => bnd fb fun y => bnd (bM (lft fun h => g h x y)) fun b => if b then bnd fc fun z => lft fun h => g' h y z else ret (.bl false)
theorem v_chain {X : Cx} {C : Ct} {op op' : CmpOp} {a b c : Expr} {pos : Pos} {r r' : R2} {g g' : List Ob → D → D → Option D} {fa fb fc : M D} (ho : OpR X (compareOp op) r) (ho' : OpR X (compareOp op') r') (s : Op2 C.K r g) (s' : Op2 C.K r' g')
    (ha : PE X a (tF C fa)) (hb : PE X b (tF C fb)) (hc : PE X c (tF C fc)) (hm : lastMarks [op, op'] [b, c] = false := by with_unfolding_all rfl) : PE X (.Compare a [op, op'] [b, c] pos) (tF C (chM g g' fa fb fc)) := imE (pe_chain ho ho' ha hb hc hm) fun σ H Q h => by
  obtain ⟨G, ι, en, k, h⟩ := h
  refine ⟨G, ι, en, k, PX.imp h.bnd fun x e1 G1 ι1 H1 u1 k1 q1 u ru => ⟨G1, ι1, e1, k1, PX.imp q1.bnd fun y e2 G2 ι2 H2 u2 k2 q2 v rv => ?_⟩⟩
  have q3 := PX.bM q2
  obtain ⟨d, hd, q4⟩ := q3.lft
  refine s G2 ι2 H2 e2.h x y d u v _ k2.hs (ru.up u2) rv hd fun G3 H3 w g3 s3 hs3 r3 => ?_
  have k3 := k2.grow g3 s3 hs3
  have up3 : Up G2 ι2 G3 ι2 := ⟨g3, List.prefix_refl _⟩
  obtain ⟨b, rfl, q5⟩ := q4 G3 ι2 H3 up3 k3 w r3
  refine ⟨b, rfl, ?_⟩
  cases b with
  | true =>
    refine iteT ⟨G3, ι2, e2, k3, PX.imp (PX.bnd q5) fun z e4 G4 ι4 H4 u4 k4 q6 t rt => ?_⟩
    obtain ⟨d2, hd2, q7⟩ := q6.lft
    exact s' G4 ι4 H4 e4.h y z d2 v t Q k4.hs (rv.up (up3.trans u4)) rt hd2 fun G' H' w g1 s1 hs r => q7 G' ι4 H' ⟨g1, List.prefix_refl _⟩ (k4.grow g1 s1 hs) w r
  | false => exact iteF (PX.now (a := D.bl false) q5 k3 _ (.bl _))
/-! ### x[i], x[i:j] -/
def ixD (h : List Ob) (x y : D) : Option D := match y with
  | .int i => match x with
    | .str z => if z.length ≤ sizeLine then (atI z.cps.toList i).map fun c => .str ⟨#[c]⟩ else none
    | x => match seqOf h x with
      | some xs => atI xs i
      | none => none
  | _ => none
theorem RDs.atI {K : PySem.W.Frag} {G : Hp} {ι : List Addr} {xs : List D} {vs : List V} {i : Int} {d : D} (r : RDs K G ι xs vs) (e : L2.atI xs i = some d) : ∃ v, L2.atI vs i = some v ∧ RD K G ι d v := by
  unfold L2.atI at e ⊢
  rw [r.1]
  cases hj : ixN xs.length i with
  | none =>
    rw [hj] at e
    cases e
  | some j =>
    rw [hj] at e
    exact r.get e
theorem s_ix {K : PySem.W.Frag} : Op2 K (rIx K) ixD := by
  intro G ι H h x y d u v Q s rx ry e q
  cases ry with
  | int i =>
    have go : (match seqOf h x with
      | some xs => atI xs i
      | none => none) = some d → rIx K u (.int i) H Q := fun e => by
      split at e
      · rename_i xs hx
        obtain ⟨a, us, rfl, h1, h2⟩ := seq_rd s rx hx
        obtain ⟨w, e1, r1⟩ := h2.atI e
        have fin := q G H w (Same.refl _) (Same.refl _) s r1
        rcases h1 with h1 | h1
        · exact .inl ⟨a, us, i, w, rfl, rfl, h1, e1, fin⟩
        · exact .inr (.inl ⟨a, us, i, w, rfl, rfl, h1, e1, fin⟩)
      · cases e
    cases rx with
    | str z =>
      have e : (if z.length ≤ sizeLine then (atI z.cps.toList i).map fun c => D.str ⟨#[c]⟩ else none) = some d := e
      split at e
      · rename_i c
        obtain ⟨c', e1, rfl⟩ := Option.map_eq_some_iff.mp e
        exact .inr (.inr ⟨z, i, c', rfl, rfl, c, e1, q G H _ (Same.refl _) (Same.refl _) s (.str _)⟩)
      · cases e
    | _ => exact go e
  | _ => cases e
theorem v_ix {X : Cx} {C : Ct} {a b : Expr} {pos : Pos} {fa fb : M D} {r : R2} {g : List Ob → D → D → Option D} (o : IxR X r) (s : Op2 C.K r g) (ha : PE X a (tF C fa)) (hb : PE X b (tF C fb)) (hs : PlainIx b) : PE X (.Subscript a b pos) (tF C (e2 g fa fb)) :=
  imE (pe_ix o ha hb hs) fun σ H Q h => im2 s σ H Q h
def prt (f : Option (M D)) : M (Option Int) := match f with
  | none => ret none
  | some f => bnd f fun d => lft fun _ => match d with
    | .int i => some (some i)
    | _ => none
def tFP (C : Ct) (f : M (Option Int)) : TO := fun σ H Q => ∃ G ι e, Ok C.K C.T G ι H σ e ∧ PX C G ι σ (f e) fun b _ _ _ H' => Q b H'
section
variable {X : Cx} {C : Ct} {e : Expr} {lo hi : Option Expr} {pos p2 : Pos}
theorem imO {e : Option Expr} {t t' : TO} (h : PO X e t) (i : ∀ σ H Q, t' σ H Q → t σ H Q) : PO X e t' := ⟨fun pins s σ H Q I q => h.run pins s σ H Q I (i σ H Q q)⟩
theorem p_none : PO X none (tFP C (prt none)) := imO po_none fun σ H Q h => by
  obtain ⟨G, ι, en, k, h⟩ := h
  exact PX.now (a := (none : Option Int)) h k
theorem p_some {f : M D} (p : PE X e (tF C f)) : PO X (some e) (tFP C (prt (some f))) := imO (po_some p) fun σ H Q h => by
  obtain ⟨G, ι, en, k, h⟩ := h
  refine ⟨G, ι, en, k, PX.imp h.bnd fun d e1 G1 ι1 H1 u1 k1 q1 v r => ?_⟩
  obtain ⟨x, hx, q⟩ := q1.lft
  cases r with
  | int i =>
    cases hx
    exact ⟨i, rfl, PX.now (a := some i) q k1⟩
  | _ => cases hx
end
def lsqOf (h : List Ob) : D → Option (List D)
  | .lst xs => some xs
  | .scr xs => some xs
  | .ref k => match h[k]? with
    | some (.lst xs) => some xs
    | _ => none
  | _ => none
theorem lsq_rd {K : PySem.W.Frag} {G H : Hp} {ι : List Addr} {h : List Ob} {d : D} {v : V} {xs : List D} (s : Hs K G ι H h) (r : RD K G ι d v) (e : lsqOf h d = some xs) : ∃ a vs, v = .ref a ∧ SqL K H a vs ∧ RDs K G ι xs vs := by
  cases r with
  | lst hh l q =>
    cases e
    exact ⟨_, _, rfl, SqL.of (s.s _ _ hh), l, q⟩
  | scr hh l q =>
    cases e
    exact ⟨_, _, rfl, s.s.seq hh, l, q⟩
  | @ref k a hk =>
    have e : (match h[k]? with
      | some (.lst xs) => some xs
      | _ => none) = some xs := e
    split at e
    · rename_i ys hy
      cases e
      obtain ⟨vs, h1, h2⟩ := s.cell hk hy
      exact ⟨a, vs, rfl, SqL.of h1, h2⟩
    · cases e
  | _ => cases e
def cut {α : Type} (xs : List α) (lo hi : Option Int) : List α := (xs.drop (HT.sIx xs.length 0 lo)).take (HT.sIx xs.length xs.length hi - HT.sIx xs.length 0 lo)
def slD (h : List Ob) (x : D) (lo hi : Option Int) : Option D := match x with
  | .str z => if z.length ≤ sizeLine then some (.str (cutS z lo hi)) else none
  | .tup xs => some (.tup (cut xs lo hi))
  | x => (lsqOf h x).map fun xs => .lst (cut xs lo hi)
def rSlN (K : PySem.W.Frag) : V → Option Int → Option Int → Hp → VK → Prop := fun x lo hi H Q => rSlAny K x lo hi H Q ∨ rSlS x lo hi H Q
theorem sl_n {X : Cx} : SlR X (rSlN X.K) := sl_any.or sl_str
theorem RDs.cut {K : PySem.W.Frag} {G : Hp} {ι : List Addr} {xs : List D} {vs : List V} (r : RDs K G ι xs vs) (lo hi : Option Int) : RDs K G ι (Fv.cut xs lo hi) (cutV vs lo hi) := by
  unfold Fv.cut cutV
  rw [r.1]
  exact (r.drop _).take _
theorem cut_whole {α : Type} {xs : List α} {lo hi : Option Int} (h1 : HT.sIx xs.length 0 lo = 0) (h2 : HT.sIx xs.length xs.length hi = xs.length) : cut xs lo hi = xs := by
  unfold cut
  rw [h1, h2, List.drop_zero, Nat.sub_zero, List.take_length]
def slM (fx : M D) (fl fh : M (Option Int)) : M D := bnd fx fun x => bnd fl fun lo => bnd fh fun hi => lft fun h => slD h x lo hi
theorem v_sl {X : Cx} {C : Ct} {e : Expr} {lo hi : Option Expr} {pos p2 : Pos} {fx : M D} {fl fh : M (Option Int)} (hX : C.K = X.K) (p : PE X e (tF C fx)) (hl : PO X lo (tFP C fl)) (hh : PO X hi (tFP C fh)) : PE X (.Subscript e (.Slice lo hi none p2) pos) (tF C (slM fx fl fh)) := imE (pe_slice sl_n p hl hh) fun σ H Q h => by
  obtain ⟨G, ι, en, k, h⟩ := h
  refine ⟨G, ι, en, k, PX.imp h.bnd fun x e1 G1 ι1 H1 u1 k1 q1 v r => ⟨G1, ι1, e1, k1, PX.imp q1.bnd fun l e2 G2 ι2 H2 u2 k2 q2 => ⟨G2, ι2, e2, k2, PX.imp q2.bnd fun u e3 G3 ι3 H3 u3 k3 q3 => ?_⟩⟩⟩
  obtain ⟨d, hd, q⟩ := q3.lft
  have s := k3.hs
  rw [← hX]
  have r3 := (r.up u2).up u3
  clear r q1 q2
  have go : (lsqOf e3.h x).map (fun xs => D.lst (cut xs l u)) = some d → rSlN C.K v l u H3 Q := fun e => by
    obtain ⟨ys, e1, rfl⟩ := Option.map_eq_some_iff.mp e
    obtain ⟨a, us, rfl, h1, h2⟩ := lsq_rd s r3 e1
    refine .inl (.inl ⟨a, us, rfl, h1, fun p n => ?_⟩)
    have g := s.same_new (o := .lst (cutV us l u)) n
    exact q _ _ _ ⟨g, List.prefix_refl _⟩ (k3.new n) _ (.lst' upd_same ((h2.cut l u).up ⟨g, List.prefix_refl _⟩))
  cases r3 with
  | str z =>
    have e : (if z.length ≤ sizeLine then some (D.str (cutS z l u)) else none) = some d := hd
    split at e
    · rename_i c
      cases e
      exact .inr ⟨z, rfl, c, PX.now q k3 _ (.str _)⟩
    · cases e
  | tup hh ll qq =>
    rename_i a vs xs
    cases hd
    have up : SqT C.K H3 a vs := sqT_at (fun o w => s.s _ o w) hh
    have rr : RDs C.K G3 ι3 xs vs := ⟨ll, qq⟩
    refine .inl (.inr ⟨a, vs, rfl, up, fun hw => ?_, fun hw p n => ?_⟩)
    · rw [ll] at hw
      rw [cut_whole hw.1 hw.2] at q
      exact PX.now q k3 _ (.tup' hh rr)
    · have g := s.same_new (o := .tup (cutV vs l u)) n
      exact q _ _ _ ⟨g, List.prefix_refl _⟩ (k3.new n) _ (.tup' (SqT.of upd_same) ((rr.cut l u).up ⟨g, List.prefix_refl _⟩))
  | lst hh ll qq => exact go hd
  | scr hh ll qq => exact go hd
  | ref hk => exact go hd
  | _ => cases hd
end Fv


set_option Elab.async false
set_option linter.all false
set_option maxRecDepth 100000
set_option maxHeartbeats 4000000
set_option autoImplicit false
namespace Fv
open PySem PySem.Spec PyProof.Rows L2 Bm
/-! ### statements -/
def seqM (f g : M Fl) : M Fl := fun e => match f e with
  | .ok .nx e' => g e'
  | r => r
def exprM (f : M D) : M Fl := bnd f fun _ => ret .nx
def retM (f : M D) : M Fl := bnd f fun d => ret (.rt d)
def putS (i : Nat) (d : D) (e : En) : Option En := some ⟨e.ρ.set i (some d), e.h⟩
def setM (f : M D) (b : D → En → Option En) : M Fl := bnd f fun d e => match b d e with
  | some e' => .ok .nx e'
  | none => .stuck
def ifS (c : M Bool) (f g : M Fl) : M Fl := bnd c fun b => if b then f else g
section
variable {X : Cx} {C : Ct} {st : Stmt} {ss : List Stmt} {e : Expr} {pos : Pos}
theorem s_nil : PSs X [] (tFS C (ret .nx)) := imSs pss_nil fun Z σ H h => by
  obtain ⟨G, ι, en, k, h⟩ := h
  exact h G ι H σ Up.refl k
theorem imSeq {f g : M Fl} (Z : Ends) (σ : L2.St) (H : Hp) (h : tFS C (seqM f g) Z σ H) : tSeq (tFS C f) (tFS C g) Z σ H := by
  obtain ⟨G, ι, en, k, h⟩ := h
  refine ⟨G, ι, en, k, ?_⟩
  unfold seqM at h
  cases q : f en with
  | ok a e' =>
    rw [q] at h
    cases a with
    | nx => exact fun G1 ι1 H1 σ1 u1 k1 => ⟨G1, ι1, e', k1, PS'.up h u1⟩
    | rt d => exact h
    | bk => exact h
    | ct => exact h
  | ex x fs e' =>
    rw [q] at h
    exact h
  | stuck =>
    rw [q] at h
    exact h
theorem s_cons {f g : M Fl} (p : PS X st (tFS C f)) (q : PSs X ss (tFS C g)) : PSs X (st :: ss) (tFS C (seqM f g)) := imSs (pss_cons p q) imSeq
theorem s_one {f : M Fl} (p : PS X st (tFS C f)) : PSs X [st] (tFS C f) := pss_one p
theorem PS'.nx {Z : Ends} {G : Hp} {ι : List Addr} {en : En} (h : PS' C Z G ι (ret Fl.nx en)) {H : Hp} {σ : L2.St} (k : Ok C.K C.T G ι H σ en) : Z.nx σ H := h G ι H σ Up.refl k
theorem s_expr {f : M D} (p : PE X e (tF C f)) (hs : swapsWith e none pos.line X.env = pure false := by rfl) : PS X (.Expr e pos) (tFS C (exprM f)) := imS (ps_expr p hs) fun Z σ H h => by
  obtain ⟨G, ι, en, k, h⟩ := h
  exact ⟨G, ι, en, k, PX.imp (PS'.bnd h) fun d e1 G1 ι1 H1 u1 k1 q1 v r => PS'.nx q1 k1⟩
theorem s_ret {f : M D} (p : PE X e (tF C f)) : PS X (.Return (some e) pos) (tFS C (retM f)) := imS (ps_ret p) fun Z σ H h => by
  obtain ⟨G, ι, en, k, h⟩ := h
  exact ⟨G, ι, en, k, PX.imp (PS'.bnd h) fun d e1 G1 ι1 H1 u1 k1 q1 v r => q1 G1 ι1 H1 σ v Up.refl k1 r⟩
theorem s_retN : PS X (.Return none pos) (tFS C (ret (.rt .non))) := imS ps_retN fun Z σ H h => by
  obtain ⟨G, ι, en, k, h⟩ := h
  exact h G ι H σ _ Up.refl k .non
theorem s_pass : PS X (.Pass pos) (tFS C (ret .nx)) := imS ps_pass fun Z σ H h => by
  obtain ⟨G, ι, en, k, h⟩ := h
  exact h G ι H σ Up.refl k
theorem s_break : PS X (.Break pos) (tFS C (ret .bk)) := imS ps_break fun Z σ H h => by
  obtain ⟨G, ι, en, k, h⟩ := h
  exact h G ι H σ Up.refl k
theorem s_continue : PS X (.Continue pos) (tFS C (ret .ct)) := imS ps_continue fun Z σ H h => by
  obtain ⟨G, ι, en, k, h⟩ := h
  exact h G ι H σ Up.refl k
theorem s_if {c : Expr} {a b : List Stmt} {fc : M Bool} {f g : M Fl} (hc : PT X c (tFB C fc)) (ha : PSs X a (tFS C f)) (hb : PSs X b (tFS C g)) : PS X (.If c a b pos) (tFS C (ifS fc f g)) := imS (ps_if hc ha hb) fun Z σ H h => by
  obtain ⟨G, ι, en, k, h⟩ := h
  refine ⟨G, ι, en, k, PX.imp (PS'.bnd h) fun c e1 G1 ι1 H1 u1 k1 q1 => ?_⟩
  cases c with
  | true => exact iteT ⟨G1, ι1, e1, k1, q1⟩
  | false => exact iteF ⟨G1, ι1, e1, k1, q1⟩
end
/-! ### targets -/
section
variable {K : PySem.W.Frag} {T : List (Addr × Str)} {G H : Hp} {ι : List Addr} {σ : L2.St} {e : En}
theorem Sls.set {ρ : List (Option D)} {i : Nat} {d : D} {v : V} (s : Sls K G ι σ ρ) (r : RD K G ι d v) : Sls K G ι (σ.set i (some v)) (ρ.set i (some d)) := by
  refine ⟨by rw [List.length_set, List.length_set]; exact s.1, fun j d' hj => ?_⟩
  rw [List.getElem?_set] at hj
  by_cases e : i = j
  · subst e
    rw [if_pos rfl] at hj
    split at hj
    · rename_i hl
      cases hj
      refine ⟨v, ?_, r⟩
      rw [List.getElem?_set, if_pos rfl, if_pos (by rw [s.1]; exact hl)]
    · cases hj
  · rw [if_neg e] at hj
    obtain ⟨w, h1, h2⟩ := s.2 j d' hj
    exact ⟨w, by rw [List.getElem?_set, if_neg e]; exact h1, h2⟩
theorem Ok.set {i : Nat} {d : D} {v : V} (k : Ok K T G ι H σ e) (r : RD K G ι d v) : Ok K T G ι H (σ.set i (some v)) ⟨e.ρ.set i (some d), e.h⟩ := ⟨k.hs, k.sl.set r, k.tb⟩
end
def PT' (C : Ct) (G : Hp) (ι : List Addr) (r : Option En) (Q : L2.St → Hp → Prop) : Prop := match r with
  | some e' => ∀ G' ι' H' σ', Up G ι G' ι' → Ok C.K C.T G' ι' H' σ' e' → Q σ' H'
  | none => False
def tFG (C : Ct) (b : D → En → Option En) : TG := fun v σ H Q => ∃ G ι e d, Ok C.K C.T G ι H σ e ∧ RD C.K G ι d v ∧ PT' C G ι (b d e) Q
def tFGs (C : Ct) (b : List D → En → Option En) : TGs := fun vs σ H Q => ∃ G ι e ds, Ok C.K C.T G ι H σ e ∧ RDs C.K G ι ds vs ∧ PT' C G ι (b ds e) Q
theorem PT'.up {C : Ct} {G G' : Hp} {ι ι' : List Addr} {r : Option En} {Q : L2.St → Hp → Prop} (h : PT' C G ι r Q) (u : Up G ι G' ι') : PT' C G' ι' r Q := by
  cases r with
  | some e' => exact fun G1 ι1 H1 σ1 u1 k => h G1 ι1 H1 σ1 (u.trans u1) k
  | none => exact h
def nilG : List D → En → Option En
  | [], e => some e
  | _, _ => none
def consG (b : D → En → Option En) (bs : List D → En → Option En) : List D → En → Option En
  | d :: ds, e => match b d e with
    | some e' => bs ds e'
    | none => none
  | [], _ => none
def tupG (n : Nat) (bs : List D → En → Option En) : D → En → Option En
  | .tup ds, e => if ds.length = n then bs ds e else none
  | _, _ => none
def lstG (n : Nat) (bs : List D → En → Option En) (d : D) (e : En) : Option En := match lsqOf e.h d with
  | some ds => if ds.length = n then bs ds e else none
  | none => none
section
variable {X : Cx} {C : Ct}
theorem imG {tg : Expr} {t t' : TG} (h : PG X tg t) (i : ∀ v σ H Q, t' v σ H Q → t v σ H Q) : PG X tg t' := ⟨fun pins s σ H v u Q I r q => h.run pins s σ H v u Q I r (i v σ H Q q)⟩
theorem imGs {tg : List Expr} {t t' : TGs} (h : PGs X tg t) (i : ∀ v σ H Q, t' v σ H Q → t v σ H Q) : PGs X tg t' := ⟨fun pins s σ H v u Q I r q => h.run pins s σ H v u Q I r (i v σ H Q q)⟩
theorem g_name {i : Nat} {tg : Expr} (p : PG X tg (gName i)) : PG X tg (tFG C (putS i)) := imG p fun v σ H Q h => by
  obtain ⟨G, ι, en, d, k, r, h⟩ := h
  exact h G ι H _ Up.refl (k.set r)
theorem gs_nil : PGs X [] (tFGs C nilG) := imGs pgs_nil fun vs σ H Q h => by
  obtain ⟨G, ι, en, ds, k, r, h⟩ := h
  cases ds with
  | nil => exact ⟨r.inv_nil, h G ι H σ Up.refl k⟩
  | cons d ds => exact h.elim
theorem gs_cons {ts : List Expr} {b : D → En → Option En} {bs : List D → En → Option En} (p : PGs X ts (gCons (tFG C b) (tFGs C bs))) : PGs X ts (tFGs C (consG b bs)) := imGs p fun vs σ H Q h => by
  obtain ⟨G, ι, en, ds, k, r, h⟩ := h
  cases ds with
  | nil => exact h.elim
  | cons d ds =>
    obtain ⟨v, vs', rfl, r1, r2⟩ := r.inv_cons
    refine ⟨v, vs', rfl, G, ι, en, d, k, r1, ?_⟩
    have h : PT' C G ι (match b d en with
      | some e' => bs ds e'
      | none => none) Q := h
    cases q : b d en with
    | some e' =>
      rw [q] at h
      exact fun G1 ι1 H1 σ1 u1 k1 => ⟨G1, ι1, e', ds, k1, r2.up u1, h.up u1⟩
    | none =>
      rw [q] at h
      exact h
theorem g_tup {tg : Expr} {n : Nat} {bs : List D → En → Option En} (p : PG X tg (gTup C.K n (tFGs C bs))) : PG X tg (tFG C (tupG n bs)) := imG p fun v σ H Q h => by
  obtain ⟨G, ι, en, d, k, r, h⟩ := h
  cases r with
  | tup hh l q =>
    rename_i a vs xs
    have h : PT' C G ι (if xs.length = n then bs xs en else none) Q := h
    split at h
    · rename_i c
      exact ⟨a, vs, rfl, sqT_at (fun o w => k.hs.s _ o w) hh, l.trans c, G, ι, en, xs, k, ⟨l, q⟩, h⟩
    · exact h.elim
  | _ => exact h.elim
theorem g_lst {tg : Expr} {n : Nat} {bs : List D → En → Option En} (p : PG X tg (gLst C.K n (tFGs C bs))) : PG X tg (tFG C (lstG n bs)) := imG p fun v σ H Q h => by
  obtain ⟨G, ι, en, d, k, r, h⟩ := h
  unfold lstG at h
  split at h
  · rename_i ds hd
    obtain ⟨a, vs, rfl, h1, h2⟩ := lsq_rd k.hs r hd
    split at h
    · rename_i c
      exact ⟨a, vs, rfl, h1, h2.1.trans c, G, ι, en, ds, k, h2, h⟩
    · exact h.elim
  · exact h.elim
theorem s_asg {st : Stmt} {f : M D} {b : D → En → Option En} (p : PS X st (tAsg (tF C f) (tFG C b))) : PS X st (tFS C (setM f b)) := imS p fun Z σ H h => by
  obtain ⟨G, ι, en, k, h⟩ := h
  refine ⟨G, ι, en, k, PX.imp (PS'.bnd h) fun d e1 G1 ι1 H1 u1 k1 q1 v r => ⟨G1, ι1, e1, d, k1, r, ?_⟩⟩
  cases q : b d e1 with
  | some e' =>
    rw [q] at q1
    exact q1
  | none =>
    rw [q] at q1
    exact q1
theorem s_set {st : Stmt} {i : Nat} {f : M D} (p : PS X st (tAsg (tF C f) (gName i))) : PS X st (tFS C (setM f (putS i))) := imS p fun Z σ H h => by
  obtain ⟨G, ι, en, k, h⟩ := h
  exact ⟨G, ι, en, k, PX.imp (PS'.bnd h) fun d e1 G1 ι1 H1 u1 k1 q1 v r => q1 G1 ι1 H1 _ Up.refl (k1.set r)⟩
/-- a, b = e1, e2 -/
def parM (i j : Nat) (f : M (List D)) : M Fl := bnd f fun ds e => match ds with
  | [x, y] => .ok .nx ⟨(e.ρ.set i (some x)).set j (some y), e.h⟩
  | _ => .stuck
theorem s_par {st : Stmt} {i j : Nat} {f : M (List D)} (p : PS X st (tPar i j (tFA C f))) : PS X st (tFS C (parM i j f)) := imS p fun Z σ H h => by
  obtain ⟨G, ι, en, k, h⟩ := h
  refine ⟨G, ι, en, k, PX.imp (PS'.bnd h) fun ds e1 G1 ι1 H1 u1 k1 q1 vs r => ?_⟩
  match ds, r, q1 with
  | [], r, q1 => exact q1.elim
  | [x], r, q1 => exact q1.elim
  | [x, y], r, q1 =>
    obtain ⟨v, w, rfl, r1, r2⟩ := r.two_of
    exact ⟨v, w, rfl, q1 G1 ι1 H1 _ Up.refl ((k1.set r1).set r2)⟩
  | x :: y :: z :: t, r, q1 => exact q1.elim
/-! ### x op= e -/
def augM (i : Nat) (g : List Ob → D → D → Option D) (f : M D) : M Fl := bnd (eV i) fun x => bnd f fun y => bnd (lft fun h => g h x y) fun d e => .ok .nx ⟨e.ρ.set i (some d), e.h⟩
theorem s_aug {st : Stmt} {i : Nat} {r : TIp} {g : List Ob → D → D → Option D} {f : M D} (s : Op2 C.K r g) (p : PS X st (tAug i (tF C f) r)) : PS X st (tFS C (augM i g f)) := imS p fun Z σ H h => by
  obtain ⟨G, ι, en, k, h⟩ := h
  have h2 : PX C G ι σ (eV i en) fun a e' G' ι' _ => PS' C Z G' ι' ((bnd f fun y => bnd (lft fun h => g h a y) fun d e => .ok .nx ⟨e.ρ.set i (some d), e.h⟩) e') := PS'.bnd h
  unfold eV at h2
  split at h2
  · rename_i d hd
    obtain ⟨v, h1, h3⟩ := k.sl.2 i d hd
    refine ⟨v, h1, G, ι, en, k, PX.imp (PS'.bnd (h2.now k)) fun y e1 G1 ι1 H1 u1 k1 q1 w rw => ?_⟩
    obtain ⟨z, hz, q⟩ := (PS'.bnd (σ := σ) q1).lft
    exact s G1 ι1 H1 e1.h d y z v w _ k1.hs (h3.up u1) rw hz fun G' H' t g1 s1 hs r => by
      have k2 := k1.grow g1 s1 hs
      have q2 := q G' ι1 H' ⟨g1, List.prefix_refl _⟩ k2
      exact q2 G' ι1 H' _ Up.refl (k2.set r)
  · exact h2.elim
/-! ### loops -/
/-- what a for walks: items that stay -/
structure ItF (K : PySem.W.Frag) (G : Hp) (ι : List Addr) (J : It) (ds : List D) : Prop where
  go : ∀ (G' : Hp) (ι' : List Addr) (H : Hp) (h : List Ob), Up G ι G' ι' → Hs K G' ι' H h → ∀ (i : Nat) d, ds[i]? = some d → J.go i H ∧ ∀ x H', J.yld i H x H' → ∃ G'', Same G' G'' ∧ Same H H' ∧ Hs K G'' ι' H' h ∧ RD K G'' ι' d x
  stop : ∀ (G' : Hp) (ι' : List Addr) (H : Hp) (h : List Ob), Up G ι G' ι' → Hs K G' ι' H h → J.stop ds.length H
theorem ItF.up {K : PySem.W.Frag} {G G' : Hp} {ι ι' : List Addr} {J : It} {ds : List D} (a : ItF K G ι J ds) (u : Up G ι G' ι') : ItF K G' ι' J ds :=
  ⟨fun G2 ι2 H h u2 s i d e => a.go G2 ι2 H h (u.trans u2) s i d e, fun G2 ι2 H h u2 s => a.stop G2 ι2 H h (u.trans u2) s⟩
def tFI (C : Ct) (f : M (List D)) : TI := fun σ H R => ∃ G ι e, Ok C.K C.T G ι H σ e ∧ PX C G ι σ (f e) fun ds _ G' ι' H' => ∀ J, ItF C.K G' ι' J ds → R J H'
def forL (b : D → En → Option En) (body : M Fl) : List D → M Fl
  | [], e => .ok .nx e
  | d :: ds, e => match b d e with
    | some e1 => match body e1 with
      | .ok .nx e2 => forL b body ds e2
      | .ok .ct e2 => forL b body ds e2
      | .ok .bk e2 => .ok .nx e2
      | r => r
    | none => .stuck
def forM (fi : M (List D)) (b : D → En → Option En) (body : M Fl) : M Fl := bnd fi fun ds => forL b body ds
theorem s_for {st : Stmt} {fi : M (List D)} {b : D → En → Option En} {body : M Fl} (p : PS X st (tFor (tFI C fi) (tFG C b) (tFS C body))) : PS X st (tFS C (forM fi b body)) := imS p fun Z σ H h => by
  obtain ⟨G, ι, en, k, h⟩ := h
  refine ⟨G, ι, en, k, PX.imp (PS'.bnd h) fun ds e1 G1 ι1 H1 u1 k1 q1 J hJ => ?_⟩
  let W : Nat → Nat → L2.St → Hp → Prop := fun i m σ H => ∃ G ι e, Up G1 ι1 G ι ∧ Ok C.K C.T G ι H σ e ∧ i ≤ ds.length ∧ m = ds.length - i ∧ PS' C Z G ι (forL b body (ds.drop i) e)
  refine ⟨W, ⟨ds.length, G1, ι1, e1, Up.refl, k1, Nat.zero_le _, rfl, q1⟩, ?_⟩
  rintro i m σ2 H2 ⟨G2, ι2, en2, u2, k2, hi, hm, q2⟩
  by_cases hlt : i < ds.length
  · refine .inr ?_
    have hd : ds[i]? = some ds[i] := List.getElem?_eq_getElem hlt
    obtain ⟨hgo, hy⟩ := (hJ.up u2).go G2 ι2 H2 en2.h Up.refl k2.hs i _ hd
    refine ⟨hgo, fun σ' H' => ∃ m', m' < m ∧ W (i + 1) m' σ' H', fun _ _ z => z, fun x H3 y => ?_⟩
    obtain ⟨G3, g3, s3, hs3, r3⟩ := hy x H3 y
    have k3 := k2.grow g3 s3 hs3
    have u3 : Up G2 ι2 G3 ι2 := ⟨g3, List.prefix_refl _⟩
    rw [List.drop_eq_getElem_cons hlt] at q2
    have q2 : PS' C Z G2 ι2 (match b ds[i] en2 with
      | some e1 => match body e1 with
        | .ok .nx e2 => forL b body (ds.drop (i + 1)) e2
        | .ok .ct e2 => forL b body (ds.drop (i + 1)) e2
        | .ok .bk e2 => .ok .nx e2
        | r => r
      | none => .stuck) := q2
    refine ⟨G3, ι2, en2, ds[i], k3, r3, ?_⟩
    cases qb : b ds[i] en2 with
    | none =>
      rw [qb] at q2
      exact q2
    | some e4 =>
      rw [qb] at q2
      intro G4 ι4 H4 σ4 u4 k4
      refine ⟨G4, ι4, e4, k4, ?_⟩
      have q2 := q2.up (u3.trans u4)
      have again : ∀ e5, PS' C Z G4 ι4 (forL b body (ds.drop (i + 1)) e5) → ∀ G5 ι5 H5 σ5, Up G4 ι4 G5 ι5 → Ok C.K C.T G5 ι5 H5 σ5 e5 → ∃ m', m' < m ∧ W (i + 1) m' σ5 H5 := fun e5 z G5 ι5 H5 σ5 u5 k5 =>
        ⟨ds.length - (i + 1), by omega, G5, ι5, e5, ((u2.trans u3).trans u4).trans u5, k5, hlt, rfl, z.up u5⟩
      dsimp only at q2
      cases qq : body e4 with
      | ok a e5 =>
        rw [qq] at q2
        cases a with
        | nx => exact again e5 q2
        | ct => exact again e5 q2
        | bk => exact q2
        | rt d => exact q2
      | ex x fs e5 =>
        rw [qq] at q2
        exact q2
      | stuck =>
        rw [qq] at q2
        exact q2
  · refine .inl ?_
    have hz : i = ds.length := by omega
    subst hz
    rw [List.drop_length] at q2
    exact ⟨(hJ.up u2).stop G2 ι2 H2 en2.h Up.refl k2.hs, q2 G2 ι2 H2 σ2 Up.refl k2⟩
/-- while, with so much fuel -/
def whM (c : M Bool) (body : M Fl) : Nat → M Fl
  | 0, _ => .stuck
  | n + 1, e => match c e with
    | .ok true e1 => match body e1 with
      | .ok .nx e2 => whM c body n e2
      | .ok .ct e2 => whM c body n e2
      | .ok .bk e2 => .ok .nx e2
      | r => r
    | .ok false e1 => .ok .nx e1
    | .ex x fs e1 => .ex x fs e1
    | .stuck => .stuck
theorem s_while {st : Stmt} {c : M Bool} {body : M Fl} (n : Nat) (p : PS X st (tWhile (tFB C c) (tFS C body))) : PS X st (tFS C (whM c body n)) := imS p fun Z σ H h => by
  obtain ⟨G, ι, en, k, h⟩ := h
  let W : Nat → L2.St → Hp → Prop := fun m σ H => ∃ G ι e, Ok C.K C.T G ι H σ e ∧ PS' C Z G ι (whM c body m e)
  refine ⟨W, ⟨n, G, ι, en, k, h⟩, ?_⟩
  rintro m σ2 H2 ⟨G2, ι2, en2, k2, q2⟩
  cases m with
  | zero => exact q2.elim
  | succ m =>
    have q2 : PS' C Z G2 ι2 (match c en2 with
      | .ok true e1 => match body e1 with
        | .ok .nx e2 => whM c body m e2
        | .ok .ct e2 => whM c body m e2
        | .ok .bk e2 => .ok .nx e2
        | r => r
      | .ok false e1 => .ok .nx e1
      | .ex x fs e1 => .ex x fs e1
      | .stuck => .stuck) := q2
    refine ⟨G2, ι2, en2, k2, ?_⟩
    cases qc : c en2 with
    | ok t e3 =>
      rw [qc] at q2
      intro G3 ι3 H3 u3 k3
      cases t with
      | false => exact iteF (q2 G3 ι3 H3 σ2 u3 k3)
      | true =>
        refine iteT ⟨fun σ' H' => ∃ m', m' < m + 1 ∧ W m' σ' H', fun _ _ z => z, G3, ι3, e3, k3, ?_⟩
        have q2 := q2.up u3
        have again : ∀ e5, PS' C Z G3 ι3 (whM c body m e5) → ∀ G5 ι5 H5 σ5, Up G3 ι3 G5 ι5 → Ok C.K C.T G5 ι5 H5 σ5 e5 → ∃ m', m' < m + 1 ∧ W m' σ5 H5 := fun e5 z G5 ι5 H5 σ5 u5 k5 =>
          ⟨m, Nat.lt_succ_self _, G5, ι5, e5, k5, z.up u5⟩
        dsimp only at q2
        cases qq : body e3 with
        | ok a e5 =>
          rw [qq] at q2
          cases a with
          | nx => exact again e5 q2
          | ct => exact again e5 q2
          | bk => exact q2
          | rt d => exact q2
        | ex x fs e5 =>
          rw [qq] at q2
          exact q2
        | stuck =>
          rw [qq] at q2
          exact q2
    | ex x fs e3 =>
      rw [qc] at q2
      exact fun G3 ι3 H3 dd u3 k3 z => q2 G3 ι3 H3 σ2 dd u3 k3 z
    | stuck =>
      rw [qc] at q2
      exact q2
end
end Fv


set_option Elab.async false
set_option linter.all false
set_option maxRecDepth 100000
set_option maxHeartbeats 4000000
set_option autoImplicit false
namespace Fv
open PySem PySem.Spec PyProof.Rows L2 Bm
/-! ### what a def computes -/
inductive Rs where
  | ok (d : D) (h : List Ob) | ex (x : Str) (fs : List (Str × D)) (h : List Ob) | stuck
abbrev Fun := List D → List Ob → Rs
def PR (K : PySem.W.Frag) (T : List (Addr × Str)) (G : Hp) (ι : List Addr) (r : Rs) (Q : VK) (E : XK) : Prop := match r with
  | .ok d h' => ∀ G' ι' H' v, Up G ι G' ι' → Hs K G' ι' H' h' → LamX.Tabs T H' → RD K G' ι' d v → Q v H'
  | .ex x fs h' => ∀ G' ι' H' dd, Up G ι G' ι' → Hs K G' ι' H' h' → LamX.Tabs T H' → XOk K G' ι' H' fs dd → E (.ref (He.ga K x)) dd H'
  | .stuck => False
def spF (K : PySem.W.Frag) (n : Nat) (Φ : Fun) : Sp := fun vs H Q E => vs.length = n ∧ ∃ T G ι h ds, LamX.Tabs T H ∧ Hs K G ι H h ∧ RDs K G ι ds vs ∧ PR K T G ι (Φ ds h) Q E
def callM (Φ : Fun) (dds : List D) (fa : M (List D)) : M D := bnd fa fun ds e => match Φ (ds ++ dds) e.h with
  | .ok d h' => .ok d ⟨e.ρ, h'⟩
  | .ex x fs h' => .ex x fs ⟨e.ρ, h'⟩
  | .stuck => .stuck
section
variable {X : Cx} {C : Ct} {e : Expr}
theorem PX.call {Φ : Fun} {ds : List D} {en : En} {G H : Hp} {ι : List Addr} {σ : L2.St} {Q : VK} (k : Ok C.K C.T G ι H σ en)
    (h : PX C G ι σ (match Φ ds en.h with
      | .ok d h' => .ok d ⟨en.ρ, h'⟩
      | .ex x fs h' => .ex x fs ⟨en.ρ, h'⟩
      | .stuck => .stuck : Res D) fun d _ G' ι' H' => ∀ v, RD C.K G' ι' d v → Q v H') : PR C.K C.T G ι (Φ ds en.h) Q (WE C.W σ) := by
  cases q : Φ ds en.h with
  | ok d h' =>
    rw [q] at h
    exact fun G' ι' H' v u s t r => h G' ι' H' u ⟨s, k.sl.up u, t⟩ v r
  | ex x fs h' =>
    rw [q] at h
    exact fun G' ι' H' dd u s t z => h G' ι' H' dd u ⟨s, k.sl.up u, t⟩ z
  | stuck =>
    rw [q] at h
    exact h
theorem v_call {n : Nat} {Φ : Fun} {dds : List D} {dvs : List V} {fa : M (List D)} (hd : ∀ G ι, RDs C.K G ι dds dvs) (hn : ∀ en ds e', fa en = .ok ds e' → (ds ++ dds).length = n) (p : PE X e (tCallSD (spF C.K n Φ) dvs (WE C.W) (tFA C fa))) : PE X e (tF C (callM Φ dds fa)) := imE p fun σ H Q h => by
  obtain ⟨G, ι, en, k, h⟩ := h
  have hx := h.bnd
  refine ⟨G, ι, en, k, ?_⟩
  cases q : fa en with
  | ok ds e1 =>
    rw [q] at hx
    intro G1 ι1 H1 u1 k1 vs r
    have rr := r.append (hd G1 ι1)
    refine ⟨rr.1.trans (hn _ _ _ q), C.T, G1, ι1, e1.h, ds ++ dds, k1.tb, k1.hs, rr, PX.call k1 (hx G1 ι1 H1 u1 k1)⟩
  | ex x fs e1 =>
    rw [q] at hx
    exact hx
  | stuck =>
    rw [q] at hx
    exact hx
end
theorem bnd_ok {α β : Type} {f : M α} {g : α → M β} {en e' : En} {b : β} (h : bnd f g en = .ok b e') : ∃ a e1, f en = .ok a e1 ∧ g a e1 = .ok b e' := by
  unfold bnd at h
  cases q : f en with
  | ok a e1 =>
    rw [q] at h
    exact ⟨a, e1, rfl, h⟩
  | ex x fs e1 =>
    rw [q] at h
    cases h
  | stuck =>
    rw [q] at h
    cases h
/-- lengths of written arguments -/
def LenM (n : Nat) (f : M (List D)) : Prop := ∀ en ds e', f en = .ok ds e' → ds.length = n
theorem len_nil : LenM 0 nilM := fun en ds e' h => by cases h; rfl
theorem len_cons {n : Nat} {f : M D} {g : M (List D)} (h : LenM n g) : LenM (n + 1) (consM f g) := fun en ds e' q => by
  obtain ⟨x, e1, h1, q⟩ := bnd_ok q
  obtain ⟨xs, e2, h2, q⟩ := bnd_ok q
  cases q
  rw [List.length_cons, h _ _ _ h2]
theorem len_app {n m : Nat} {f : M (List D)} (h : LenM n f) {dds : List D} (e : n + dds.length = m) : ∀ en ds e', f en = .ok ds e' → (ds ++ dds).length = m := fun en ds e' q => by
  rw [List.length_append, h _ _ _ q, e]
def start0 (nN : Nat) (ds : List D) : List (Option D) := ds.map some ++ List.replicate (nN - ds.length) none
def defF (nN : Nat) (f : M Fl) : Fun := fun ds h => match f ⟨start0 nN ds, h⟩ with
  | .ok (.rt d) e => .ok d e.h
  | .ok .nx e => .ok .non e.h
  | .ex x fs e => .ex x fs e.h
  | _ => .stuck
theorem sls_start {K : PySem.W.Frag} {G : Hp} {ι : List Addr} {N : List Str} {ds : List D} {vs : List V} (r : RDs K G ι ds vs) : Sls K G ι (L2.start N vs) (start0 N.length ds) := by
  unfold L2.start start0
  refine ⟨by rw [List.length_append, List.length_append, List.length_map, List.length_map, List.length_replicate, List.length_replicate, r.1], fun i d h => ?_⟩
  by_cases hl : i < ds.length
  · rw [List.getElem?_append_left (by rw [List.length_map]; exact hl), List.getElem?_map] at h
    obtain ⟨d', h1, h2⟩ := Option.map_eq_some_iff.mp h
    cases h2
    obtain ⟨v, h3, h4⟩ := r.get h1
    refine ⟨v, ?_, h4⟩
    rw [List.getElem?_append_left (by rw [List.length_map, r.1]; exact hl), List.getElem?_map, h3]
    rfl
  · rw [List.getElem?_append_right (by rw [List.length_map]; omega), List.getElem?_replicate] at h
    split at h
    · cases h
    · cases h
section
variable {P : Program} {w : World} {K : PySem.W.Frag} {mg : Str → Option Value} {base : Heap} {x qual : Str} {params : Arguments} {body : List Stmt} {scope : Scope} {dvs : List V} {kws : List (Str × V)} {f : Addr} {fd : FuncData}
theorem def_end {C : Ct} {nN : Nat} {b : M Fl} {Q : VK} {E : XK} {G : Hp} {ι : List Addr} {ds : List D} {h : List Ob} (hW : ∀ c d σ H, E c d H → C.W c d σ H) (p : PR C.K C.T G ι (defF nN b ds h) Q E) : PS' C { nx := fun _ H' => Q .non H', rt := Q } G ι (b ⟨start0 nN ds, h⟩) := by
  unfold defF at p
  cases q : b ⟨start0 nN ds, h⟩ with
  | ok a e1 =>
    rw [q] at p
    cases a with
    | nx => exact fun G' ι' H' σ' u k => p G' ι' H' .non u k.hs k.tb .non
    | rt d => exact fun G' ι' H' σ' v u k r => p G' ι' H' v u k.hs k.tb r
    | bk => exact p.elim
    | ct => exact p.elim
  | ex x fs e1 =>
    rw [q] at p
    exact fun G' ι' H' σ' dd u k z => hW _ _ _ _ (p G' ι' H' dd u k.hs k.tb z)
  | stuck =>
    rw [q] at p
    exact p
/-- a def keeps what its body computes -/
theorem okF {N ps : List Str} {k : Nat} {b : M Fl} (F : FunD K x qual params body scope dvs kws f fd) (S : FnScope N ps scope)
    (hbody : ∀ (cdv : Value) (A : Around) (outer : List Env) (s : Shared) (H : Hp) (E : XK) (T : List (Addr × Str)), Room k (A.deeper (envOfC qual scope s.heap.objs.size f cdv)) →
      PSs (cxOf (L2.CX P w) P w K mg base N qual scope f cdv A outer s H E) body (tFS ⟨K, T, fun c d _ H' => E c d H'⟩ b)) : FnOk P w K mg base (L2.CX P w) (k + 1) f fd ps (spF K ps.length (defF N.length b)) := by
  refine F.ok S (fun vs H Q E h => h.1) (fun cdv A outer s H vs Q E hr h => ?_)
  obtain ⟨hl, T, G, ι, hp, ds, ht, hs, r, p⟩ := h
  exact ⟨_, hbody cdv A outer s H E T hr, G, ι, ⟨start0 N.length ds, hp⟩, ⟨hs, sls_start r, ht⟩, def_end (C := ⟨K, T, fun c d _ H' => E c d H'⟩) (fun _ _ _ _ z => z) p⟩
end
/-! ### what a def leaves behind -/
mutual
/-- no thing from n on -/
def low (n : Nat) : D → Bool
  | .ref k => decide (k < n)
  | .tup xs => lows n xs
  | .lst xs => lows n xs
  | .scr xs => lows n xs
  | .dic _ xs => lows n xs
  | .obj _ _ xs => lows n xs
  | _ => true
def lows (n : Nat) : List D → Bool
  | [] => true
  | x :: xs => low n x && lows n xs
end
def lowO (n : Nat) : Ob → Bool
  | .lst xs => lows n xs
  | .dic _ xs => lows n xs
  | .ins _ fs => lows n (fs.map (·.2))
  | .td _ _ => true
def mapO (go : D → Option D) : List D → Option (List D)
  | [] => some []
  | x :: xs => match go x, mapO go xs with
    | some y, some ys => some (y :: ys)
    | _, _ => none
mutual
/-- things from n on stay as they are now; go: what stands within them -/
def fzW (go : D → Option D) (h : List Ob) (n : Nat) : D → Option D
  | .ref k => if k < n then some (.ref k) else match h[k]? with
    | some (.lst xs) => (mapO go xs).map .lst
    | some (.dic ks xs) => (mapO go xs).map (.dic ks)
    | some (.ins c fs) => (mapO go (fs.map (·.2))).map (.obj c (fs.map (·.1)))
    | some (.td _ _) => none
    | none => none
  | .tup xs => (fzs go h n xs).map .tup
  | .lst xs => (fzs go h n xs).map .lst
  | .scr xs => (fzs go h n xs).map .scr
  | .dic ks xs => (fzs go h n xs).map (.dic ks)
  | .obj c ns xs => (fzs go h n xs).map (.obj c ns)
  | .non => some .non
  | .bl b => some (.bl b)
  | .int i => some (.int i)
  | .str x => some (.str x)
  | .typ t => some (.typ t)
  | .nd ks => some (.nd ks)
def fzs (go : D → Option D) (h : List Ob) (n : Nat) : List D → Option (List D)
  | [] => some []
  | x :: xs => match fzW go h n x, fzs go h n xs with
    | some y, some ys => some (y :: ys)
    | _, _ => none
end
def fzN (h : List Ob) (n : Nat) : Nat → D → Option D
  | 0 => fun _ => none
  | m + 1 => fzW (fzN h n m) h n
abbrev fz (h : List Ob) (n : Nat) : D → Option D := fzN h n 5
def Drops (h h' : List Ob) : Prop := ∀ k o, k < h.length → h'[k]? = some o → h[k]? = some o ∨ lowO h.length o = true
open Classical in
noncomputable def finF (Φ : Fun) : Fun := fun ds h => match Φ ds h with
  | .ok d h' => if Drops h h' ∧ h.length ≤ h'.length then match fz h' h.length d with
      | some d' => .ok d' (h'.take h.length)
      | none => .stuck
    else .stuck
  | .ex x fs h' => if Drops h h' ∧ h.length ≤ h'.length ∧ lows h.length (fs.map (·.2)) = true then .ex x fs (h'.take h.length) else .stuck
  | .stuck => .stuck
section
variable {K : PySem.W.Frag} {G G2 H : Hp} {ι ι2 : List Addr} {h : List Ob} {n : Nat}
theorem lows_get {xs : List D} (l : lows n xs = true) {i : Nat} {d : D} (e : xs[i]? = some d) : low n d = true := by
  induction xs generalizing i with
  | nil => simp at e
  | cons x xs ih =>
    unfold lows at l
    rw [Bool.and_eq_true] at l
    cases i with
    | zero =>
      obtain rfl : x = d := by simpa using e
      exact l.1
    | succ i => exact ih l.2 (by simpa using e)
theorem RD.low {d : D} {v : V} (r : RD K G ι d v) (g : Same G G2) (i : ∀ (k : Nat) a, k < n → ι[k]? = some a → ι2[k]? = some a) (l : Fv.low n d = true) : RD K G2 ι2 d v := by
  induction r with
  | non => exact .non
  | bl b => exact .bl b
  | int i => exact .int i
  | str x => exact .str x
  | tup hh ll q ih =>
    unfold Fv.low at l
    exact .tup (sqT_at (fun o q => g _ o q) hh) ll fun j d v a b => ih j d v a b (lows_get l a)
  | lst hh ll q ih =>
    unfold Fv.low at l
    exact .lst (g _ _ hh) ll fun j d v a b => ih j d v a b (lows_get l a)
  | scr hh ll q ih =>
    unfold Fv.low at l
    exact .scr (g.seq hh) ll fun j d v a b => ih j d v a b (lows_get l a)
  | dic hh hk ll q ih =>
    unfold Fv.low at l
    exact .dic (g _ _ hh) hk ll fun j d v a b => ih j d v a b (lows_get l a)
  | ref hh =>
    unfold Fv.low at l
    exact .ref (i _ _ (of_decide_eq_true l) hh)
  | obj hh hk ll q ih =>
    unfold Fv.low at l
    exact .obj (g _ _ hh) hk ll fun j d v a b => ih j d v a b (lows_get l a)
  | typ t => exact .typ t
  | nd hh => exact .nd (g _ _ hh)
theorem RDs.low {xs : List D} {vs : List V} (r : RDs K G ι xs vs) (g : Same G G2) (i : ∀ (k : Nat) a, k < n → ι[k]? = some a → ι2[k]? = some a) (l : lows n xs = true) : RDs K G2 ι2 xs vs :=
  ⟨r.1, fun j d v a b => (r.2 j d v a b).low g i (lows_get l a)⟩
theorem fzs_get {go : D → Option D} {xs ys : List D} (e : fzs go h n xs = some ys) : ys.length = xs.length ∧ ∀ (i : Nat) d', ys[i]? = some d' → ∃ d, xs[i]? = some d ∧ fzW go h n d = some d' := by
  induction xs generalizing ys with
  | nil =>
    unfold fzs at e
    cases e
    exact ⟨rfl, fun i d' z => by simp at z⟩
  | cons x xs ih =>
    unfold fzs at e
    split at e
    · rename_i y ys' h1 h2
      cases e
      obtain ⟨a1, a2⟩ := ih h2
      refine ⟨by rw [List.length_cons, List.length_cons, a1], fun i d' z => ?_⟩
      cases i with
      | zero =>
        obtain rfl : y = d' := by simpa using z
        exact ⟨x, rfl, h1⟩
      | succ i =>
        obtain ⟨d, b1, b2⟩ := a2 i d' (by simpa using z)
        exact ⟨d, by simpa using b1, b2⟩
    · cases e
theorem mapO_get {go : D → Option D} {xs ys : List D} (e : mapO go xs = some ys) : ys.length = xs.length ∧ ∀ (i : Nat) d', ys[i]? = some d' → ∃ d, xs[i]? = some d ∧ go d = some d' := by
  induction xs generalizing ys with
  | nil =>
    unfold mapO at e
    cases e
    exact ⟨rfl, fun i d' z => by simp at z⟩
  | cons x xs ih =>
    unfold mapO at e
    split at e
    · rename_i y ys' h1 h2
      cases e
      obtain ⟨a1, a2⟩ := ih h2
      refine ⟨by rw [List.length_cons, List.length_cons, a1], fun i d' z => ?_⟩
      cases i with
      | zero =>
        obtain rfl : y = d' := by simpa using z
        exact ⟨x, rfl, h1⟩
      | succ i =>
        obtain ⟨d, b1, b2⟩ := a2 i d' (by simpa using z)
        exact ⟨d, by simpa using b1, b2⟩
    · cases e
/-- all that was made since stays as it is now -/
theorem RD.fzW {go : D → Option D} {d d' : D} {v : V} (s : Hs K G ι H h) (g : Same G G2) (g2 : ∀ (k : Nat) a, n ≤ k → ι[k]? = some a → G2 a = H a) (i : ∀ (k : Nat) a, k < n → ι[k]? = some a → ι2[k]? = some a)
    (hgo : ∀ d d' v, RD K G ι d v → go d = some d' → RD K G2 ι2 d' v) (r : RD K G ι d v) (e : Fv.fzW go h n d = some d') : RD K G2 ι2 d' v := by
  have all : ∀ {xs ys : List D} {vs : List V}, fzs go h n xs = some ys → vs.length = xs.length → (∀ (i : Nat) d v, xs[i]? = some d → vs[i]? = some v → ∀ {d'}, Fv.fzW go h n d = some d' → RD K G2 ι2 d' v) → RDs K G2 ι2 ys vs := fun {xs ys vs} e l ih => by
    obtain ⟨a1, a2⟩ := fzs_get e
    refine ⟨by rw [l, a1], fun j d' v hj hv => ?_⟩
    obtain ⟨d, b1, b2⟩ := a2 j d' hj
    exact ih j d v b1 hv b2
  have deep : ∀ {xs ys : List D} {vs : List V}, mapO go xs = some ys → RDs K G ι xs vs → RDs K G2 ι2 ys vs := fun {xs ys vs} e r => by
    obtain ⟨a1, a2⟩ := mapO_get e
    refine ⟨by rw [r.1, a1], fun j d' v hj hv => ?_⟩
    obtain ⟨d, b1, b2⟩ := a2 j d' hj
    exact hgo d d' v (r.2 j d v b1 hv) b2
  induction r generalizing d' with
  | non => unfold Fv.fzW at e; cases e; exact .non
  | bl b => unfold Fv.fzW at e; cases e; exact .bl b
  | int i => unfold Fv.fzW at e; cases e; exact .int i
  | str x => unfold Fv.fzW at e; cases e; exact .str x
  | tup hh ll q ih =>
    unfold Fv.fzW at e
    obtain ⟨ys, e1, rfl⟩ := Option.map_eq_some_iff.mp e
    exact .tup' (sqT_at (fun o q => g _ o q) hh) (all e1 ll fun j d v a b {d'} z => ih j d v a b z)
  | lst hh ll q ih =>
    unfold Fv.fzW at e
    obtain ⟨ys, e1, rfl⟩ := Option.map_eq_some_iff.mp e
    exact .lst' (g _ _ hh) (all e1 ll fun j d v a b {d'} z => ih j d v a b z)
  | scr hh ll q ih =>
    unfold Fv.fzW at e
    obtain ⟨ys, e1, rfl⟩ := Option.map_eq_some_iff.mp e
    have a := all e1 ll fun j d v a b {d'} z => ih j d v a b z
    exact .scr (g.seq hh) a.1 a.2
  | @dic a kvs ks ds hh hk ll q ih =>
    unfold Fv.fzW at e
    obtain ⟨ys, e1, rfl⟩ := Option.map_eq_some_iff.mp e
    obtain ⟨a1, a2⟩ := fzs_get e1
    refine .dic (g _ _ hh) hk (by rw [a1]; exact ll) fun j d' kv hj hv => ?_
    obtain ⟨d, b1, b2⟩ := a2 j d' hj
    exact ih j d kv b1 hv b2
  | @obj a dx gs c ns ds hh hk ll q ih =>
    unfold Fv.fzW at e
    obtain ⟨ys, e1, rfl⟩ := Option.map_eq_some_iff.mp e
    obtain ⟨a1, a2⟩ := fzs_get e1
    refine .obj (g _ _ hh) hk (by rw [a1]; exact ll) fun j d' kv hj hv => ?_
    obtain ⟨d, b1, b2⟩ := a2 j d' hj
    exact ih j d kv b1 hv b2
  | @ref k a hh =>
    unfold Fv.fzW at e
    split at e
    · rename_i hk
      cases e
      exact .ref (i _ _ hk hh)
    · rename_i hk
      have gh := g2 k a (by omega) hh
      split at e
      · rename_i xs hx
        obtain ⟨ys, e1, rfl⟩ := Option.map_eq_some_iff.mp e
        obtain ⟨vs, b1, b2⟩ := s.cell hh hx
        exact .lst' (gh.trans b1) (deep e1 b2)
      · rename_i ks xs hx
        obtain ⟨ys, e1, rfl⟩ := Option.map_eq_some_iff.mp e
        obtain ⟨kvs, b1, b2, b3⟩ := s.cell hh hx
        have b4 := deep e1 b3
        exact .dic (gh.trans b1) b2 (by have := b4.1; simpa using this) fun j d kv hj hv => b4.2 j d kv.2 hj (by rw [List.getElem?_map, hv]; rfl)
      · rename_i c fs hx
        obtain ⟨ys, e1, rfl⟩ := Option.map_eq_some_iff.mp e
        obtain ⟨dx, gs, b1, b2, b3⟩ := s.cell hh hx
        have b4 := deep e1 b3
        exact .obj (gh.trans b1) b2 (by have := b4.1; simpa using this) fun j d kv hj hv => b4.2 j d kv.2 hj (by rw [List.getElem?_map, hv]; rfl)
      · cases e
      · cases e
  | typ t => unfold Fv.fzW at e; cases e; exact .typ t
  | nd hh => unfold Fv.fzW at e; cases e; exact .nd (g _ _ hh)
theorem RD.fzN {m : Nat} {d d' : D} {v : V} (s : Hs K G ι H h) (g : Same G G2) (g2 : ∀ (k : Nat) a, n ≤ k → ι[k]? = some a → G2 a = H a) (i : ∀ (k : Nat) a, k < n → ι[k]? = some a → ι2[k]? = some a) (r : RD K G ι d v) (e : Fv.fzN h n m d = some d') : RD K G2 ι2 d' v := by
  induction m generalizing d d' v with
  | zero => cases e
  | succ m ih => exact r.fzW s g g2 i (fun _ _ _ r e => ih r e) e
theorem RD.fz {d d' : D} {v : V} (s : Hs K G ι H h) (g : Same G G2) (g2 : ∀ (k : Nat) a, n ≤ k → ι[k]? = some a → G2 a = H a) (i : ∀ (k : Nat) a, k < n → ι[k]? = some a → ι2[k]? = some a) (r : RD K G ι d v) (e : Fv.fz h n d = some d') : RD K G2 ι2 d' v := r.fzN s g g2 i e
theorem lows_of {xs : List D} (ih : ∀ (i : Nat) d, xs[i]? = some d → Fv.low n d = true) : lows n xs = true := by
  induction xs with
  | nil => unfold lows; rfl
  | cons x xs ihl =>
    unfold lows
    rw [ih 0 x rfl, Bool.true_and]
    exact ihl fun i d e => ih (i + 1) d (by simpa using e)
theorem RD.isLow {d : D} {v : V} (r : RD K G ι d v) : Fv.low ι.length d = true := by
  have one : ∀ {α : Type} {xs : List D} {vs : List α}, vs.length = xs.length → ∀ {i : Nat} {d : D}, xs[i]? = some d → ∃ v, vs[i]? = some v := fun {α xs vs} l {i d} e => by
    have hl : i < vs.length := by
      rw [l]
      exact (List.getElem?_eq_some_iff.mp e).1
    exact ⟨vs[i], List.getElem?_eq_getElem hl⟩
  induction r with
  | tup hh ll q ih =>
    unfold Fv.low
    exact lows_of fun j d a => let ⟨v, b⟩ := one ll a; ih j d v a b
  | lst hh ll q ih =>
    unfold Fv.low
    exact lows_of fun j d a => let ⟨v, b⟩ := one ll a; ih j d v a b
  | scr hh ll q ih =>
    unfold Fv.low
    exact lows_of fun j d a => let ⟨v, b⟩ := one ll a; ih j d v a b
  | dic hh hk ll q ih =>
    unfold Fv.low
    exact lows_of fun j d a => let ⟨v, b⟩ := one ll a; ih j d v a b
  | obj hh hk ll q ih =>
    unfold Fv.low
    exact lows_of fun j d a => let ⟨v, b⟩ := one ll a; ih j d v a b
  | ref hh =>
    unfold Fv.low
    exact decide_eq_true (List.getElem?_eq_some_iff.mp hh).1
  | _ => unfold Fv.low; rfl
theorem RDs.isLow {xs : List D} {vs : List V} (r : RDs K G ι xs vs) : lows ι.length xs = true := lows_of fun i d e => by
  obtain ⟨v, _, q⟩ := r.get e
  exact q.isLow
theorem ObOk.isLow {a : Addr} {o : Ob} (r : ObOk K G ι H a o) : lowO ι.length o = true := by
  cases o with
  | lst xs =>
    obtain ⟨vs, _, q⟩ := r
    exact q.isLow
  | dic ks xs =>
    obtain ⟨vs, _, _, q⟩ := r
    exact q.isLow
  | ins c fs =>
    obtain ⟨dx, vs, _, _, q⟩ := r
    exact q.isLow
  | td w ks => rfl
theorem ObOk.low {a : Addr} {o : Ob} {H2 : Hp} (r : ObOk K G ι H a o) (g : Same G G2) (i : ∀ (k : Nat) a, k < n → ι[k]? = some a → ι2[k]? = some a) (l : lowO n o = true) (e : H2 a = H a) : ObOk K G2 ι2 H2 a o := by
  cases o with
  | lst xs =>
    obtain ⟨vs, h1, q⟩ := r
    exact ⟨vs, e.trans h1, q.low g i l⟩
  | dic ks xs =>
    obtain ⟨vs, h1, h2, q⟩ := r
    exact ⟨vs, e.trans h1, h2, q.low g i l⟩
  | ins c fs =>
    obtain ⟨dx, vs, h1, h2, q⟩ := r
    exact ⟨dx, vs, e.trans h1, h2, q.low g i l⟩
  | td w ks =>
    obtain ⟨xs, h1, h2, h3⟩ := r
    exact ⟨xs, e.trans h1, h2, fun x m => (h3 x m).same g⟩
/-- the heap in which what was made since stays -/
def stayG (G H : Hp) (l : List Addr) : Hp := fun a => if a ∈ l then H a else G a
theorem Hs.drop {h0 : List Ob} {ι0 : List Addr} {G0 H0 : Hp} (s : Hs K G ι H h) (s0 : Hs K G0 ι0 H0 h0) (u : Up G0 ι0 G ι) (d : Drops h0 h) (hl : h0.length ≤ h.length) :
    Same G (stayG G H (ι.drop h0.length)) ∧ Hs K (stayG G H (ι.drop h0.length)) ι0 H (h.take h0.length) ∧ (∀ (k : Nat) a, h0.length ≤ k → ι[k]? = some a → stayG G H (ι.drop h0.length) a = H a) ∧ (∀ (k : Nat) a, k < h0.length → ι[k]? = some a → ι0[k]? = some a) := by
  obtain ⟨t, rfl⟩ := u.i
  have hd : (ι0 ++ t).drop h0.length = t := by rw [← s0.len, List.drop_left]
  rw [hd]
  have g : Same G (stayG G H t) := fun a o e => by
    unfold stayG
    split
    · exact s.s _ _ e
    · exact e
  have i1 : ∀ (k : Nat) a, k < h0.length → (ι0 ++ t)[k]? = some a → ι0[k]? = some a := fun k a hk e => by
    rw [List.getElem?_append_left (by rw [s0.len]; exact hk)] at e
    exact e
  have nt : ∀ a, a ∈ ι0 → a ∉ t := fun a ha hb => (List.nodup_append.mp s.nd).2.2 a ha a hb rfl
  refine ⟨g, ⟨fun a o e => ?_, s0.nd, by rw [List.length_take, s0.len]; omega, fun a ha => ?_, fun a ps e => ?_, fun k a o hk ho => ?_⟩, fun k a hk e => ?_, i1⟩
  · unfold stayG at e
    split at e
    · exact e
    · exact s.s _ _ e
  · unfold stayG
    rw [if_neg (nt a ha)]
    exact s.g a (List.mem_append.mpr (.inl ha))
  · unfold stayG at e
    split at e
    · rename_i ht
      obtain ⟨j, hj⟩ := List.getElem?_of_mem (List.mem_append.mpr (.inr ht) : a ∈ ι0 ++ t)
      have hlt : j < h.length := by
        rw [← s.len]
        exact (List.getElem?_eq_some_iff.mp hj).1
      obtain ⟨ho, o1, o2⟩ := (s.ob j a h[j] hj (List.getElem?_eq_getElem hlt)).has
      rw [o1] at e
      exact o2 ps (Option.some.inj e)
    · exact s.nt a ps e
  · have hk0 : k < h0.length := by
      rw [← s0.len]
      exact (List.getElem?_eq_some_iff.mp hk).1
    rw [List.getElem?_take, if_pos hk0] at ho
    have hkk : (ι0 ++ t)[k]? = some a := by
      rw [List.getElem?_append_left (by rw [s0.len]; exact hk0)]
      exact hk
    have ob := s.ob k a o hkk ho
    have lo : lowO h0.length o = true := by
      rcases d k o hk0 ho with q | q
      · rw [← s0.len]
        exact (s0.ob k a o hk q).isLow
      · exact q
    exact ObOk.low ob g i1 lo rfl
  · unfold stayG
    have : a ∈ t := by
      rw [List.getElem?_append_right (by rw [s0.len]; exact hk)] at e
      exact List.mem_of_getElem? e
    rw [if_pos this]
theorem lookup_at {fs : List (Str × D)} {f : Str} {x : D} (hx : fs.lookup f = some x) : ∃ i : Nat, (fs.map (·.2))[i]? = some x := by
  induction fs with
  | nil => cases hx
  | cons pr fs ih =>
    obtain ⟨m, y⟩ := pr
    rw [List.lookup_cons] at hx
    split at hx
    · cases hx
      exact ⟨0, rfl⟩
    · obtain ⟨i, hi⟩ := ih hx
      exact ⟨i + 1, by simpa using hi⟩
/-- from all that a def leaves to what callers look at -/
theorem imFin {n : Nat} {Φ : Fun} (vs : List V) (H : Hp) (Q : VK) (E : XK) (h : spF K n (finF Φ) vs H Q E) : spF K n Φ vs H Q E := by
  obtain ⟨hl, T, G, ι, hp, ds, ht, hs, r, p⟩ := h
  refine ⟨hl, T, G, ι, hp, ds, ht, hs, r, ?_⟩
  unfold finF at p
  cases q : Φ ds hp with
  | ok d h' =>
    rw [q] at p
    dsimp only at p
    split at p
    · rename_i c
      split at p
      · rename_i d' hd
        intro G' ι' H' v u s t rr
        obtain ⟨a1, a2, a3, a4⟩ := s.drop hs u c.1 c.2
        exact p _ ι H' v ⟨u.g.trans a1, List.prefix_refl _⟩ a2 t (rr.fz s a1 a3 a4 hd)
      · exact p.elim
    · exact p.elim
  | ex x fs h' =>
    rw [q] at p
    dsimp only at p
    split at p
    · rename_i c
      intro G' ι' H' dd u s t z
      obtain ⟨a1, a2, a3, a4⟩ := s.drop hs u c.1 c.2.1
      refine p _ ι H' dd ⟨u.g.trans a1, List.prefix_refl _⟩ a2 t ?_
      rcases z with z | ⟨z1, d, gs, z2, z3, z4⟩
      · exact .inl z
      · refine .inr ⟨z1, d, gs, z2, z3, fun f x hx => ?_⟩
        obtain ⟨v, b1, b2⟩ := z4 f x hx
        refine ⟨v, b1, b2.low a1 a4 ?_⟩
        have hm := lookup_at hx
        obtain ⟨i, hi⟩ := hm
        exact lows_get c.2.2 hi
    · exact p.elim
  | stuck =>
    rw [q] at p
    exact p
end
theorem fin_ok {Φ : Fun} {ds : List D} {h h' g : List Ob} {d d' : D} (e : Φ ds h = .ok d h') (dr : Drops h h') (hl : h.length ≤ h'.length) (ht : h'.take h.length = g) (hz : fz h' h.length d = some d') : finF Φ ds h = .ok d' g := by
  unfold finF
  rw [e]
  dsimp only
  rw [if_pos ⟨dr, hl⟩, hz, ht]
theorem fin_ex {Φ : Fun} {ds : List D} {h h' g : List Ob} {x : Str} {fs : List (Str × D)} (e : Φ ds h = .ex x fs h') (dr : Drops h h') (hl : h.length ≤ h'.length) (ht : h'.take h.length = g) (hz : lows h.length (fs.map (·.2)) = true) : finF Φ ds h = .ex x fs g := by
  unfold finF
  rw [e]
  dsimp only
  rw [if_pos ⟨dr, hl, hz⟩, ht]
theorem drops_app {h t : List Ob} : Drops h (h ++ t) := fun k o hk e => .inl (by rw [List.getElem?_append_left hk] at e; exact e)
theorem drops_set {h t : List Ob} {j : Nat} {c : Ob} (lo : lowO h.length c = true) : Drops h (h.set j c ++ t) := fun k o hk e => by
  rw [List.getElem?_append_left (by rw [List.length_set]; exact hk), List.getElem?_set] at e
  split at e
  · split at e
    · cases e
      exact .inr lo
    · cases e
  · exact .inl e
end Fv


set_option Elab.async false
set_option linter.all false
set_option maxRecDepth 100000
set_option maxHeartbeats 4000000
set_option autoImplicit false
namespace Fv
open PySem PySem.Spec PyProof.Rows L2 Bm
/-! ### what loops walk -/
def stayOf : D → Option (List D)
  | .lst xs => some xs
  | .tup xs => some xs
  | .scr xs => some xs
  | _ => none
section
variable {K : PySem.W.Frag} {G H : Hp} {ι : List Addr} {h : List Ob}
theorem stay_rd {d : D} {v : V} {xs : List D} (r : RD K G ι d v) (e : stayOf d = some xs) : ∃ a vs, v = .ref a ∧ SqA K G a vs ∧ RDs K G ι xs vs := by
  cases r with
  | lst hh l q =>
    cases e
    exact ⟨_, _, rfl, .inl (SqL.of hh), l, q⟩
  | tup hh l q =>
    cases e
    exact ⟨_, _, rfl, .inr hh, l, q⟩
  | scr hh l q =>
    cases e
    exact ⟨_, _, rfl, .inl hh, l, q⟩
  | _ => cases e
theorem itL {a : Addr} {vs : List V} {xs : List D} (hq : SqL K G a vs) (r : RDs K G ι xs vs) : ItF K G ι (Itl K a) xs := by
  refine ⟨fun G' ι' H h u s i d e => ?_, fun G' ι' H h u s => ⟨vs, s.s.seq (u.g.seq hq), by rw [r.1]; exact Nat.le_refl _⟩⟩
  obtain ⟨v, h1, h2⟩ := r.get e
  have hs := s.s.seq (u.g.seq hq)
  refine ⟨⟨vs, v, hs, h1⟩, fun x H' y => ?_⟩
  obtain ⟨rfl, y⟩ := y
  have e2 := y vs hs
  rw [h1] at e2
  cases e2
  exact ⟨G', Same.refl _, Same.refl _, s, h2.up u⟩
theorem itT {a : Addr} {vs : List V} {xs : List D} (hq : SqT K G a vs) (r : RDs K G ι xs vs) : ItF K G ι (Itt K a) xs := by
  have up : ∀ {G' : Hp} {ι' : List Addr} {H : Hp} {h : List Ob}, Up G ι G' ι' → Hs K G' ι' H h → SqT K H a vs := fun u s => sqT_at (fun o z => s.s _ o z) (sqT_at (fun o z => u.g _ o z) hq)
  refine ⟨fun G' ι' H h u s i d e => ?_, fun G' ι' H h u s => ⟨vs, up u s, by rw [r.1]; exact Nat.le_refl _⟩⟩
  obtain ⟨v, h1, h2⟩ := r.get e
  refine ⟨⟨vs, v, up u s, h1⟩, fun x H' y => ?_⟩
  obtain ⟨rfl, y⟩ := y
  have e2 := y vs (up u s)
  rw [h1] at e2
  cases e2
  exact ⟨G', Same.refl _, Same.refl _, s, h2.up u⟩
def rangeL (lo : Int) (n : Nat) : List D := (List.range n).map fun i => .int (lo + (i : Nat))
theorem itR {lo : Int} {n : Nat} : ItF K G ι (Itr lo n) (rangeL lo n) := by
  refine ⟨fun G' ι' H h u s i d e => ?_, fun G' ι' H h u s => ?_⟩
  · unfold rangeL at e
    rw [List.getElem?_map] at e
    obtain ⟨j, e1, rfl⟩ := Option.map_eq_some_iff.mp e
    have hi : i < n := by
      have := (List.getElem?_eq_some_iff.mp e1).1
      simpa using this
    rw [List.getElem?_range hi] at e1
    cases e1
    refine ⟨hi, fun x H' y => ?_⟩
    obtain ⟨rfl, rfl⟩ := y
    exact ⟨G', Same.refl _, Same.refl _, s, .int _⟩
  · show n ≤ (rangeL lo n).length
    unfold rangeL
    simp
def rangeC (lo c : Int) (n : Nat) : List D := (List.range n).map fun i => .int (lo + (i : Nat) * c)
theorem itC {lo c : Int} {n : Nat} : ItF K G ι (Itc lo c n) (rangeC lo c n) := by
  refine ⟨fun G' ι' H h u s i d e => ?_, fun G' ι' H h u s => ?_⟩
  · unfold rangeC at e
    rw [List.getElem?_map] at e
    obtain ⟨j, e1, rfl⟩ := Option.map_eq_some_iff.mp e
    have hi : i < n := by
      have := (List.getElem?_eq_some_iff.mp e1).1
      simpa using this
    rw [List.getElem?_range hi] at e1
    cases e1
    refine ⟨hi, fun x H' y => ?_⟩
    obtain ⟨rfl, rfl⟩ := y
    exact ⟨G', Same.refl _, Same.refl _, s, .int _⟩
  · show n ≤ (rangeC lo c n).length
    unfold rangeC
    simp
/-- (0, x), (1, y), .. -/
def enumL (xs : List D) : List D := xs.mapIdx fun i x => .tup [.int (i : Nat), x]
theorem new_pair {G' : Hp} {ι' : List Addr} {T : Addr} {u v : V} {x y : D} (s : Hs K G' ι' H h) (n : H T = none) (r1 : RD K G' ι' x u) (r2 : RD K G' ι' y v) :
    ∃ G'', Same G' G'' ∧ Same H (upd H T (.tup [u, v])) ∧ Hs K G'' ι' (upd H T (.tup [u, v])) h ∧ RD K G'' ι' (.tup [x, y]) (.ref T) := by
  have g := s.same_new (o := .tup [u, v]) n
  have up : Up G' ι' (upd G' T (.tup [u, v])) ι' := ⟨g, List.prefix_refl _⟩
  exact ⟨_, g, Same.new n, s.new n, .tup' (SqT.of upd_same) (.cons (r1.up up) (.one (r2.up up)))⟩
theorem itEL {a : Addr} {vs : List V} {xs : List D} (hq : SqL K G a vs) (r : RDs K G ι xs vs) : ItF K G ι (Ite K a) (enumL xs) := by
  refine ⟨fun G' ι' H h u s i d e => ?_, fun G' ι' H h u s => ⟨vs, s.s.seq (u.g.seq hq), by rw [r.1]; unfold enumL; simp⟩⟩
  unfold enumL at e
  rw [List.getElem?_mapIdx] at e
  obtain ⟨x, e1, rfl⟩ := Option.map_eq_some_iff.mp e
  obtain ⟨v, h1, h2⟩ := r.get e1
  have hs := s.s.seq (u.g.seq hq)
  refine ⟨⟨vs, v, hs, h1⟩, fun z H' y => ?_⟩
  obtain ⟨T, x', rfl, n, rfl, y⟩ := y
  have e2 := y vs hs
  rw [h1] at e2
  cases e2
  exact new_pair s n (.int _) (h2.up u)
theorem itET {a : Addr} {vs : List V} {xs : List D} (hq : SqT K G a vs) (r : RDs K G ι xs vs) : ItF K G ι (IteT K a) (enumL xs) := by
  have up : ∀ {G' : Hp} {ι' : List Addr} {H : Hp} {h : List Ob}, Up G ι G' ι' → Hs K G' ι' H h → SqT K H a vs := fun u s => sqT_at (fun o z => s.s _ o z) (sqT_at (fun o z => u.g _ o z) hq)
  refine ⟨fun G' ι' H h u s i d e => ?_, fun G' ι' H h u s => ⟨vs, up u s, by rw [r.1]; unfold enumL; simp⟩⟩
  unfold enumL at e
  rw [List.getElem?_mapIdx] at e
  obtain ⟨x, e1, rfl⟩ := Option.map_eq_some_iff.mp e
  obtain ⟨v, h1, h2⟩ := r.get e1
  refine ⟨⟨vs, v, up u s, h1⟩, fun z H' y => ?_⟩
  obtain ⟨T, x', rfl, n, rfl, y⟩ := y
  have e2 := y vs (up u s)
  rw [h1] at e2
  cases e2
  exact new_pair s n (.int _) (h2.up u)
def zipL (xs ys : List D) : List D := (xs.zip ys).map fun p => .tup [p.1, p.2]
theorem itZL {a b : Addr} {vs us : List V} {xs ys : List D} (hq : SqL K G a vs) (hp : SqL K G b us) (r : RDs K G ι xs vs) (t : RDs K G ι ys us) : ItF K G ι (Itz K a b) (zipL xs ys) := by
  refine ⟨fun G' ι' H h u s i d e => ?_, fun G' ι' H h u s => ⟨vs, us, s.s.seq (u.g.seq hq), s.s.seq (u.g.seq hp), by rw [r.1, t.1]; unfold zipL; simp; omega⟩⟩
  unfold zipL at e
  rw [List.getElem?_map] at e
  obtain ⟨p, e1, rfl⟩ := Option.map_eq_some_iff.mp e
  rw [List.getElem?_zip_eq_some] at e1
  obtain ⟨v, h1, h2⟩ := r.get e1.1
  obtain ⟨w, h3, h4⟩ := t.get e1.2
  have hs := s.s.seq (u.g.seq hq)
  have hs2 := s.s.seq (u.g.seq hp)
  refine ⟨⟨vs, us, v, w, hs, hs2, h1, h3⟩, fun z H' y => ?_⟩
  obtain ⟨T, x', y', rfl, n, rfl, z1, z2⟩ := y
  have q1 := z1 vs hs
  have q2 := z2 us hs2
  rw [h1] at q1
  rw [h3] at q2
  cases q1
  cases q2
  exact new_pair s n (h2.up u) (h4.up u)
end
def seqI (f : M D) : M (List D) := bnd f fun d => lft fun _ => stayOf d
def rng1 (f : M (List D)) : M (List D) := bnd f fun ds => lft fun _ => match ds with
  | [.int j] => if -(2 ^ 62) ≤ j ∧ j < 2 ^ 62 then some (rangeL 0 j.toNat) else none
  | _ => none
def rng2 (f : M (List D)) : M (List D) := bnd f fun ds => lft fun _ => match ds with
  | [.int i, .int j] => if -(2 ^ 62) ≤ i ∧ i < 2 ^ 62 ∧ -(2 ^ 62) ≤ j ∧ j < 2 ^ 62 then some (rangeL i (j - i).toNat) else none
  | _ => none
def enumI (f : M (List D)) : M (List D) := bnd f fun ds => lft fun _ => match ds with
  | [d] => (stayOf d).map enumL
  | _ => none
def zipI (f : M (List D)) : M (List D) := bnd f fun ds => lft fun _ => match ds with
  | [.lst xs, .lst ys] => some (zipL xs ys)
  | _ => none
section
variable {X : Cx} {C : Ct} {tg it : Expr}
theorem imI {t t' : TI} (h : PI X tg it t) (i : ∀ σ H R, t' σ H R → t σ H R) : PI X tg it t' := ⟨fun pins s σ H R I q => h.run pins s σ H R I (i σ H R q)⟩
theorem i_seq {f : M D} (p : PI X tg it (iSeq C.K (tF C f))) : PI X tg it (tFI C (seqI f)) := imI p fun σ H R h => by
  obtain ⟨G, ι, en, k, h⟩ := h
  refine ⟨G, ι, en, k, PX.imp h.bnd fun d e1 G1 ι1 H1 u1 k1 q1 v r => ?_⟩
  obtain ⟨ds, hd, q⟩ := q1.lft
  obtain ⟨a, vs, rfl, h1, h2⟩ := stay_rd r hd
  refine ⟨a, rfl, ?_⟩
  rcases h1 with h1 | h1
  · exact .inl ⟨⟨vs, k1.hs.s.seq h1⟩, q.now k1 _ (itL h1 h2)⟩
  · exact .inr ⟨⟨vs, sqT_at (fun o z => k1.hs.s _ o z) h1⟩, q.now k1 _ (itT h1 h2)⟩
theorem i_rng1 {f : M (List D)} (p : PI X tg it (iRng1 (tFA C f))) : PI X tg it (tFI C (rng1 f)) := imI p fun σ H R h => by
  obtain ⟨G, ι, en, k, h⟩ := h
  refine ⟨G, ι, en, k, PX.imp h.bnd fun ds e1 G1 ι1 H1 u1 k1 q1 vs r => ?_⟩
  obtain ⟨xs, hd, q⟩ := q1.lft
  split at hd
  · rename_i j
    split at hd
    · rename_i c
      cases hd
      obtain ⟨v, rfl, r1⟩ := r.one_of
      cases r1
      exact ⟨j, rfl, c.1, c.2, q.now k1 _ itR⟩
    · cases hd
  · cases hd
theorem i_rng2 {f : M (List D)} (p : PI X tg it (iRng2 (tFA C f))) : PI X tg it (tFI C (rng2 f)) := imI p fun σ H R h => by
  obtain ⟨G, ι, en, k, h⟩ := h
  refine ⟨G, ι, en, k, PX.imp h.bnd fun ds e1 G1 ι1 H1 u1 k1 q1 vs r => ?_⟩
  obtain ⟨xs, hd, q⟩ := q1.lft
  split at hd
  · rename_i i j
    split at hd
    · rename_i c
      cases hd
      obtain ⟨v, w, rfl, r1, r2⟩ := r.two_of
      cases r1
      cases r2
      exact ⟨i, j, rfl, c, q.now k1 _ itR⟩
    · cases hd
  · cases hd
theorem i_enum {f : M (List D)} (p : PI X tg it (iEnumA C.K (tFA C f))) : PI X tg it (tFI C (enumI f)) := imI p fun σ H R h => by
  obtain ⟨G, ι, en, k, h⟩ := h
  refine ⟨G, ι, en, k, PX.imp h.bnd fun ds e1 G1 ι1 H1 u1 k1 q1 vs r => ?_⟩
  obtain ⟨xs, hd, q⟩ := q1.lft
  split at hd
  · rename_i d
    obtain ⟨v, rfl, r1⟩ := r.one_of
    obtain ⟨ys, hy, rfl⟩ := Option.map_eq_some_iff.mp hd
    obtain ⟨a, us, rfl, h1, h2⟩ := stay_rd r1 hy
    refine ⟨a, us, rfl, ?_⟩
    rcases h1 with h1 | h1
    · exact .inl ⟨k1.hs.s.seq h1, q.now k1 _ (itEL h1 h2)⟩
    · exact .inr ⟨sqT_at (fun o z => k1.hs.s _ o z) h1, q.now k1 _ (itET h1 h2)⟩
  · cases hd
theorem i_zip {f : M (List D)} (p : PI X tg it (iZip C.K (tFA C f))) : PI X tg it (tFI C (zipI f)) := imI p fun σ H R h => by
  obtain ⟨G, ι, en, k, h⟩ := h
  refine ⟨G, ι, en, k, PX.imp h.bnd fun ds e1 G1 ι1 H1 u1 k1 q1 vs r => ?_⟩
  obtain ⟨xs, hd, q⟩ := q1.lft
  split at hd
  · rename_i as bs
    cases hd
    obtain ⟨v, w, rfl, r1, r2⟩ := r.two_of
    cases r1 with
    | lst h1 l1 e1 =>
      cases r2 with
      | lst h2 l2 e2 =>
        exact ⟨_, _, _, _, rfl, SqL.of (k1.hs.s _ _ h1), SqL.of (k1.hs.s _ _ h2), q.now k1 _ (itZL (SqL.of h1) (SqL.of h2) ⟨l1, e1⟩ ⟨l2, e2⟩)⟩
  · cases hd
end
/-! ### [.. for .. in ..] -/
def putN (is : List Nat) (ds : List D) (ρ : List (Option D)) : List (Option D) := match is, ds with
  | i :: is, d :: ds => putN is ds (ρ.set i (some d))
  | _, _ => ρ
def setN (is : List Nat) (vs : List V) (σ : L2.St) : L2.St := match is, vs with
  | i :: is, v :: vs => setN is vs (σ.set i (some v))
  | _, _ => σ
def gNames : List Nat → TGs
  | [] => gNil
  | i :: is => gCons (gName i) (gNames is)
theorem gNames_ok {is : List Nat} {vs : List V} {σ : L2.St} {H : Hp} {Q : L2.St → Hp → Prop} (l : vs.length = is.length) (q : Q (setN is vs σ) H) : gNames is vs σ H Q := by
  induction is generalizing vs σ with
  | nil =>
    cases vs with
    | nil => exact ⟨rfl, q⟩
    | cons v vs => cases l
  | cons i is ih =>
    cases vs with
    | nil => cases l
    | cons v vs => exact ⟨v, vs, rfl, ih (by simpa using l) q⟩
def wipeD (ρ : List (Option D)) : List Nat → List (Option D)
  | [] => ρ
  | v :: vs => (wipeD ρ vs).set v none
theorem wipe_set {i : Nat} {x : Option V} : ∀ {vs : List Nat} {σ : L2.St}, i ∈ vs → wipe (σ.set i x) vs = wipe σ vs
  | v :: vs, σ, h => by
    unfold wipe
    by_cases e : i ∈ vs
    · rw [wipe_set e]
    · obtain rfl : i = v := by
        rcases List.mem_cons.mp h with h | h
        · exact h
        · exact absurd h e
      have : wipe (σ.set i x) vs = (wipe σ vs).set i x := wipe_out e
      rw [this, List.set_set]
where
  wipe_out {i : Nat} {x : Option V} : ∀ {vs : List Nat} {σ : L2.St}, i ∉ vs → wipe (σ.set i x) vs = (wipe σ vs).set i x
    | [], σ, _ => rfl
    | v :: vs, σ, h => by
      unfold wipe
      have hne : i ≠ v := fun z => h (by rw [z]; exact List.mem_cons_self)
      rw [wipe_out (fun z => h (List.mem_cons_of_mem _ z)), List.set_comm _ _ hne]
theorem wipe_idem {vs : List Nat} {σ : L2.St} : wipe (wipe σ vs) vs = wipe σ vs := by
  have gen : ∀ (us : List Nat) (τ : L2.St), (∀ u ∈ us, u ∈ vs) → wipe (wipe τ us) vs = wipe τ vs := fun us => by
    induction us with
    | nil => intro τ _; rfl
    | cons u us ih =>
      intro τ h
      show wipe ((wipe τ us).set u none) vs = _
      rw [wipe_set (h u List.mem_cons_self)]
      exact ih τ fun w hw => h w (List.mem_cons_of_mem _ hw)
  exact gen vs σ fun _ h => h
theorem wipe_setN {vs : List Nat} : ∀ {is : List Nat} {us : List V} {σ : L2.St}, (∀ i ∈ is, i ∈ vs) → wipe (setN is us σ) vs = wipe σ vs
  | [], _, _, _ => by unfold setN; rfl
  | i :: is, [], _, _ => rfl
  | i :: is, u :: us, σ, h => by
    unfold setN
    rw [wipe_setN (fun j hj => h j (List.mem_cons_of_mem _ hj)), wipe_set (h i List.mem_cons_self)]
section
variable {K : PySem.W.Frag} {T : List (Addr × Str)} {G H : Hp} {ι : List Addr} {h : List Ob} {σ : L2.St}
theorem Sls.none {ρ : List (Option D)} {i : Nat} (s : Sls K G ι σ ρ) : Sls K G ι (σ.set i none) (ρ.set i none) := by
  refine ⟨by rw [List.length_set, List.length_set]; exact s.1, fun j d' hj => ?_⟩
  rw [List.getElem?_set] at hj
  by_cases e : i = j
  · subst e
    rw [if_pos rfl] at hj
    split at hj <;> cases hj
  · rw [if_neg e] at hj
    obtain ⟨w, h1, h2⟩ := s.2 j d' hj
    exact ⟨w, by rw [List.getElem?_set, if_neg e]; exact h1, h2⟩
theorem Sls.wipe {ρ : List (Option D)} (s : Sls K G ι σ ρ) : ∀ vs, Sls K G ι (L2.wipe σ vs) (wipeD ρ vs)
  | [] => s
  | v :: vs => (Sls.wipe s vs).none
theorem Sls.setN : ∀ {is : List Nat} {ds : List D} {vs : List V} {σ : L2.St} {ρ : List (Option D)}, Sls K G ι σ ρ → RDs K G ι ds vs → Sls K G ι (Fv.setN is vs σ) (putN is ds ρ)
  | [], ds, vs, σ, ρ, s, r => by unfold Fv.setN putN; exact s
  | i :: is, [], vs, σ, ρ, s, r => by
    rw [r.inv_nil]
    unfold Fv.setN putN
    exact s
  | i :: is, d :: ds, vs, σ, ρ, s, r => by
    obtain ⟨v, vs', rfl, r1, r2⟩ := r.inv_cons
    unfold Fv.setN putN
    exact Sls.setN (s.set r1) r2
end
/-- the target of a comprehension: one name, or a tuple of names -/
inductive Tg where
  | one (i : Nat) | tup (is : List Nat) | two (i : Nat) (js : List Nat)
def Tg.slots : Tg → List Nat
  | .one i => [i]
  | .tup is => is
  | .two i js => i :: js
def Tg.g (K : PySem.W.Frag) : Tg → TG
  | .one i => gName i
  | .tup is => gTup K is.length (gNames is)
  | .two i js => gTup K 2 (gCons (gName i) (gCons (gTup K js.length (gNames js)) gNil))
def Tg.put : Tg → D → List (Option D) → Option (List (Option D))
  | .one i, d, ρ => some (ρ.set i (some d))
  | .tup is, .tup ds, ρ => if ds.length = is.length then some (putN is ds ρ) else none
  | .tup _, _, _ => none
  | .two i js, .tup [d, .tup ds], ρ => if ds.length = js.length then some (putN js ds (ρ.set i (some d))) else none
  | .two _ _, _, _ => none
/-- the turns; n: the number of the list that is made -/
def lcL (t : Tg) (tt : M Bool) (f : M D) (ρ : List (Option D)) (n : Nat) : List D → List Ob → Option (List Ob)
  | [], h => some h
  | d :: ds, h => match t.put d ρ with
    | none => none
    | some ρ1 => match tt ⟨ρ1, h⟩ with
      | .ok true e2 => match f e2 with
        | .ok y e3 => match e3.h[n]? with
          | some (.lst acc) => if acc.length < 1000000 then lcL t tt f ρ n ds (e3.h.set n (.lst (acc ++ [y]))) else none
          | _ => none
        | _ => none
      | .ok false e2 => lcL t tt f ρ n ds e2.h
      | _ => none
/-- the list is a thing from now on -/
def lcP (t : Tg) (vs : List Nat) (fi : M (List D)) (tt : M Bool) (f : M D) : M D := bnd fi fun ds e => match lcL t tt f (wipeD e.ρ vs) e.h.length ds (e.h ++ [.lst []]) with
  | some h' => .ok (.ref e.h.length) ⟨e.ρ, h'⟩
  | none => .stuck
def Ct.nox (C : Ct) : Ct := ⟨C.K, C.T, fun _ _ _ _ => False⟩
theorem Hs.set {K : PySem.W.Frag} {G H : Hp} {ι : List Addr} {h : List Ob} {k : Nat} {a : Addr} {o : Ob} {ho : HO} (s : Hs K G ι H h) (hk : ι[k]? = some a) (q : ObOk K G ι (upd H a ho) a o) : Hs K G ι (upd H a ho) (h.set k o) := by
  have ga : G a = none := s.g a (List.mem_of_getElem? hk)
  refine ⟨fun b y z => ?_, s.nd, by rw [List.length_set]; exact s.len, s.g, s.nt, fun j b y hj hy => ?_⟩
  · have : b ≠ a := fun e => by
      rw [e, ga] at z
      cases z
    rw [upd_ne this]
    exact s.s _ _ z
  · rw [List.getElem?_set] at hy
    by_cases e : k = j
    · subst e
      rw [if_pos rfl] at hy
      split at hy
      · cases hy
        rw [hk] at hj
        cases hj
        exact q
      · cases hy
    · rw [if_neg e] at hy
      have : b ≠ a := fun z => by
        subst z
        exact e ((List.getElem_inj (i := k) (j := j) (h₀ := (List.getElem?_eq_some_iff.mp hk).1) (h₁ := (List.getElem?_eq_some_iff.mp hj).1) s.nd).mp (by
          rw [(List.getElem?_eq_some_iff.mp hk).2, (List.getElem?_eq_some_iff.mp hj).2]))
      exact (s.ob j b y hj hy).up Up.refl (upd_ne this)
theorem tabs_upd {T : List (Addr × Str)} {H : Hp} {a : Addr} {o o' : HO} (t : LamX.Tabs T H) (h : H a = some o) (h1 : ∀ ps, o ≠ .tbl ps) (h2 : ∀ φ, o ≠ .ext φ) : LamX.Tabs T (upd H a o') := fun q hq => by
  obtain ⟨ps, a1, a2, a3⟩ := t q hq
  refine ⟨ps, ?_, a2, fun pos cv hc => ?_⟩
  · rw [upd_ne (fun z => by rw [z, h] at a1; exact h1 _ (Option.some.inj a1))]
    exact a1
  · obtain ⟨c', e1, e2⟩ := a3 pos cv hc
    refine ⟨c', e1, ?_⟩
    rw [upd_ne (fun z => by rw [z, h] at e2; unfold LamX.CodeO at e2; exact h2 _ (Option.some.inj e2))]
    exact e2
theorem tabs_upd2 {T : List (Addr × Str)} {H : Hp} {a : Addr} {o o' : HO} (t : LamX.Tabs T H) (h : H a = some o) (h1 : ∀ ps, o ≠ .tbl ps) (h2 : ∀ c q, o ≠ LamX.CodeO c q) : LamX.Tabs T (upd H a o') := fun q hq => by
  obtain ⟨ps, a1, a2, a3⟩ := t q hq
  refine ⟨ps, ?_, a2, fun pos cv hc => ?_⟩
  · rw [upd_ne (fun z => by rw [z, h] at a1; exact h1 _ (Option.some.inj a1))]
    exact a1
  · obtain ⟨c', e1, e2⟩ := a3 pos cv hc
    refine ⟨c', e1, ?_⟩
    rw [upd_ne (fun z => by rw [z, h] at e2; exact h2 _ _ (Option.some.inj e2))]
    exact e2
theorem tupD_ne {w : World} {a c : Addr} {xs : List (NestedKey × Addr)} {q : Str} : HO.ext (TupD w a xs) ≠ LamX.CodeO c q := fun e => by
  unfold LamX.CodeO at e
  have e := HO.ext.inj e
  have at_ : ∀ (k : Nat), k < a + c + 1 → Heap.get? { objs := Array.replicate (a + c + 1) { cls := .none, data := .fields #[.none, .str q 0] } } k = some { cls := .none, data := .fields #[.none, .str q 0] } := fun k hk => by
    unfold Heap.get?
    simp [hk]
  have y : TupD w a xs { objs := Array.replicate (a + c + 1) { cls := .none, data := .fields #[.none, .str q 0] } } := by
    rw [e]
    exact ⟨_, _, _, at_ c (by omega), rfl, rfl⟩
  obtain ⟨_, _, o, es, ep, _, _, g, _, d, _⟩ := y
  rw [at_ a (by omega)] at g
  cases g
  cases d
theorem imLcP {C : Ct} {t : Tg} {vs : List Nat} {fi : M (List D)} {tt : M Bool} {f : M D} (hv : ∀ i ∈ t.slots, i ∈ vs) (σ : L2.St) (H : Hp) (Q : VK) (h : tF C (lcP t vs fi tt f) σ H Q) : tLc (tFI C fi) (t.g C.K) (tFB C.nox tt) (tF C.nox f) vs σ H Q := by
  obtain ⟨G, ι, en, k, h⟩ := h
  refine ⟨G, ι, en, k, PX.imp h.bnd fun ds e1 G1 ι1 H1 u1 k1 q1 J hJ Dd nD => ?_⟩
  have mD := k1.hs.not_mem nD
  have gD := k1.hs.gnone nD
  have kt : Ok C.K C.T G1 ι1 (upd H1 Dd (.lst [])) σ e1 := k1.temp nD
  have k0 := kt.pub gD mD (x := .lst []) ⟨[], upd_same, .nil⟩
  have u0 : Up G1 ι1 G1 (ι1 ++ [Dd]) := up_snoc
  have hn : e1.h.length = ι1.length := k1.hs.len.symm
  have hat : (ι1 ++ [Dd])[e1.h.length]? = some Dd := by
    rw [hn, List.getElem?_append_right (Nat.le_refl _), Nat.sub_self]
    rfl
  let W : Nat → Nat → Hp → Prop := fun i m H => ∃ G ι h, Up G1 (ι1 ++ [Dd]) G ι ∧ Hs C.K G ι H h ∧ LamX.Tabs C.T H ∧ i ≤ ds.length ∧ m = ds.length - i ∧ PX C G ι σ (match lcL t tt f (wipeD e1.ρ vs) e1.h.length (ds.drop i) h with
    | some h' => .ok (D.ref e1.h.length) ⟨e1.ρ, h'⟩
    | none => .stuck) fun d _ G' ι' H' => ∀ v, RD C.K G' ι' d v → Q v H'
  refine ⟨W, ⟨ds.length, G1, ι1 ++ [Dd], e1.h ++ [.lst []], Up.refl, k0.hs, k0.tb, Nat.zero_le _, rfl, PX.up q1 u0⟩, ?_⟩
  rintro i m H2 ⟨G2, ι2, h2, u2, s2, t2, hi, hm, q2⟩
  have hD : ι2[e1.h.length]? = some Dd := pre_get u2.i hat
  by_cases hlt : i < ds.length
  · refine .inr ?_
    have hd : ds[i]? = some ds[i] := List.getElem?_eq_getElem hlt
    obtain ⟨hgo, hy⟩ := (hJ.up (u0.trans u2)).go G2 ι2 H2 h2 Up.refl s2 i _ hd
    refine ⟨hgo, fun H' => ∃ m', m' < m ∧ W (i + 1) m' H', fun _ z => z, fun x H3 y => ?_⟩
    obtain ⟨G3, g3, s3, hs3, r3⟩ := hy x H3 y
    have u3 : Up G2 ι2 G3 ι2 := ⟨g3, List.prefix_refl _⟩
    rw [List.drop_eq_getElem_cons hlt] at q2
    unfold lcL at q2
    generalize ds[i] = d at q2 r3
    have slw : Sls C.K G3 ι2 (wipe σ vs) (wipeD e1.ρ vs) := (k1.sl.up ((u0.trans u2).trans u3)).wipe vs
    have step : ∀ {σ2 : L2.St} {ρ1 : List (Option D)}, wipe σ2 vs = wipe σ vs → Sls C.K G3 ι2 σ2 ρ1 → PX C G3 ι2 σ (match (match tt ⟨ρ1, h2⟩ with
      | .ok true e2 => match f e2 with
        | .ok y e3 => match e3.h[e1.h.length]? with
          | some (.lst acc) => if acc.length < 1000000 then lcL t tt f (wipeD e1.ρ vs) e1.h.length (ds.drop (i + 1)) (e3.h.set e1.h.length (.lst (acc ++ [y]))) else none
          | _ => none
        | _ => none
      | .ok false e2 => lcL t tt f (wipeD e1.ρ vs) e1.h.length (ds.drop (i + 1)) e2.h
      | _ => none) with
      | some h' => .ok (D.ref e1.h.length) ⟨e1.ρ, h'⟩
      | none => .stuck) (fun d _ G' ι' H' => ∀ v, RD C.K G' ι' d v → Q v H') → wipe σ2 vs = wipe σ vs ∧ tFB C.nox tt σ2 H3 fun b H3 =>
        if b = true then tF C.nox f σ2 H3 fun y H4 => ∃ acc, H4 Dd = some (.lst acc) ∧ acc.length < sizeLine ∧ ∃ m', m' < m ∧ W (i + 1) m' (upd H4 Dd (.lst (acc ++ [y]))) else ∃ m', m' < m ∧ W (i + 1) m' H3 := fun {σ2 ρ1} hw sl p => by
      refine ⟨hw, G3, ι2, ⟨ρ1, h2⟩, ⟨hs3, sl, t2.ext s3⟩, ?_⟩
      cases qt : tt ⟨ρ1, h2⟩ with
      | ok b e4 =>
        rw [qt] at p
        intro G4 ι4 H4 u4 k4
        cases b with
        | false =>
          exact iteF ⟨ds.length - (i + 1), by omega, G4, ι4, e4.h, (u2.trans u3).trans u4, k4.hs, k4.tb, hlt, rfl, PX.up p u4⟩
        | true =>
          refine iteT ⟨G4, ι4, e4, k4, ?_⟩
          dsimp only at p
          cases qf : f e4 with
          | ok y e5 =>
            rw [qf] at p
            intro G5 ι5 H5 u5 k5 v rv
            dsimp only at p
            split at p
            · rename_i h' hh
              split at hh
              · rename_i acc hacc
                split at hh
                · rename_i hlen
                  have hD5 : ι5[e1.h.length]? = some Dd := pre_get ((u3.trans u4).trans u5).i hD
                  obtain ⟨us, o1, o2⟩ := k5.hs.cell hD5 hacc
                  have ob : ObOk C.K G5 ι5 (upd H5 Dd (.lst (us ++ [v]))) Dd (.lst (acc ++ [y])) := ⟨_, upd_same, o2.append (.one rv)⟩
                  refine ⟨us, o1, by rw [o2.1]; exact Nat.lt_of_lt_of_le hlen (by decide), ds.length - (i + 1), by omega, G5, ι5, _, ((u2.trans u3).trans u4).trans u5, k5.hs.set hD5 ob, tabs_upd k5.tb o1 (fun _ z => by cases z) (fun _ z => by cases z), hlt, rfl, ?_⟩
                  rw [hh]
                  exact PX.up p (u4.trans u5)
                · cases hh
              · cases hh
            · exact p.elim
          | ex x fs e5 =>
            rw [qf] at p
            exact p.elim
          | stuck =>
            rw [qf] at p
            exact p.elim
      | ex x fs e4 =>
        rw [qt] at p
        exact p.elim
      | stuck =>
        rw [qt] at p
        exact p.elim
    cases t with
    | one j =>
      show _ ∧ _
      exact step (by rw [wipe_set (hv j List.mem_cons_self), wipe_idem]) (slw.set r3) (PX.up q2 u3)
    | tup is =>
      cases r3 with
      | tup hh ll qq =>
        rename_i a us xs
        have q2 : PX C G2 ι2 σ (match (match (if xs.length = is.length then some (putN is xs (wipeD e1.ρ vs)) else none) with
          | none => none
          | some ρ1 => (match tt ⟨ρ1, h2⟩ with
            | .ok true e2 => match f e2 with
              | .ok y e3 => match e3.h[e1.h.length]? with
                | some (.lst acc) => if acc.length < 1000000 then lcL (.tup is) tt f (wipeD e1.ρ vs) e1.h.length (ds.drop (i + 1)) (e3.h.set e1.h.length (.lst (acc ++ [y]))) else none
                | _ => none
              | _ => none
            | .ok false e2 => lcL (.tup is) tt f (wipeD e1.ρ vs) e1.h.length (ds.drop (i + 1)) e2.h
            | _ => none)) with
          | some h' => .ok (D.ref e1.h.length) ⟨e1.ρ, h'⟩
          | none => .stuck) fun d _ G' ι' H' => ∀ v, RD C.K G' ι' d v → Q v H' := q2
        by_cases hl : xs.length = is.length
        · rw [if_pos hl] at q2
          refine ⟨a, us, rfl, sqT_at (fun o z => hs3.s _ o z) hh, by rw [ll]; exact hl, gNames_ok (by rw [ll]; exact hl) ?_⟩
          exact step (by rw [wipe_setN (is := is) (fun i hi => hv i hi), wipe_idem]) (slw.setN ⟨ll, qq⟩) (PX.up q2 u3)
        · rw [if_neg hl] at q2
          exact q2.elim
      | _ => exact q2.elim
    | two i0 js =>
      cases r3 with
      | tup hh ll qq =>
        rename_i a us xs
        rcases xs with _ | ⟨d1, _ | ⟨d2, _ | ⟨d3, xs⟩⟩⟩
        · exact (show False from q2).elim
        · exact (show False from q2).elim
        · have rr : RDs C.K G3 ι2 [d1, d2] us := ⟨ll, qq⟩
          obtain ⟨v1, us1, rfl, ra, rr1⟩ := rr.inv_cons
          obtain ⟨v2, us3, rfl, rb, rr2⟩ := rr1.inv_cons
          obtain rfl := rr2.inv_nil
          clear rr rr1 rr2 qq
          cases rb with
          | tup hh2 ll2 qq2 =>
            rename_i a2 us2 xs2
            have q2 : PX C G2 ι2 σ (match (match (if xs2.length = js.length then some (putN js xs2 ((wipeD e1.ρ vs).set i0 (some d1))) else none) with
              | none => none
              | some ρ1 => (match tt ⟨ρ1, h2⟩ with
                | .ok true e2 => match f e2 with
                  | .ok y e3 => match e3.h[e1.h.length]? with
                    | some (.lst acc) => if acc.length < 1000000 then lcL (.two i0 js) tt f (wipeD e1.ρ vs) e1.h.length (ds.drop (i + 1)) (e3.h.set e1.h.length (.lst (acc ++ [y]))) else none
                    | _ => none
                  | _ => none
                | .ok false e2 => lcL (.two i0 js) tt f (wipeD e1.ρ vs) e1.h.length (ds.drop (i + 1)) e2.h
                | _ => none)) with
              | some h' => .ok (D.ref e1.h.length) ⟨e1.ρ, h'⟩
              | none => .stuck) fun d _ G' ι' H' => ∀ v, RD C.K G' ι' d v → Q v H' := q2
            by_cases hl : xs2.length = js.length
            · rw [if_pos hl] at q2
              refine ⟨a, _, rfl, sqT_at (fun o z => hs3.s _ o z) hh, rfl, v1, _, rfl, _, _, rfl, ⟨a2, us2, rfl, sqT_at (fun o z => hs3.s _ o z) hh2, by rw [ll2]; exact hl, gNames_ok (by rw [ll2]; exact hl) ⟨rfl, ?_⟩⟩⟩
              exact step (by rw [wipe_setN (is := js) (fun i hi => hv i (List.mem_cons_of_mem _ hi)), wipe_set (hv i0 List.mem_cons_self), wipe_idem]) ((slw.set ra).setN ⟨ll2, qq2⟩) (PX.up q2 u3)
            · rw [if_neg hl] at q2
              exact (show False from q2).elim
          | _ => exact (show False from q2).elim
        · cases d2 <;> exact (show False from q2).elim
      | _ => exact (show False from q2).elim
  · refine .inl ?_
    have hz : i = ds.length := by omega
    subst hz
    rw [List.drop_length] at q2
    have k2 : Ok C.K C.T G2 ι2 H2 σ ⟨e1.ρ, h2⟩ := ⟨s2, k1.sl.up (u0.trans u2), t2⟩
    exact ⟨(hJ.up (u0.trans u2)).stop G2 ι2 H2 h2 Up.refl s2, PX.now (a := D.ref e1.h.length) q2 k2 _ (.ref hD)⟩
end Fv


set_option Elab.async false
set_option linter.all false
set_option maxRecDepth 100000
set_option maxHeartbeats 4000000
set_option autoImplicit false
namespace Fv
open PySem PySem.Spec PyProof.Rows L2 Bm
/-! ### what an expression made stays as it is; the rest is forgotten -/
open Classical in
noncomputable def dropM (f : M D) : M D := fun e => match f e with
  | .ok d e' => if Drops e.h e'.h ∧ e.h.length ≤ e'.h.length ∧ e'.ρ = e.ρ then match fz e'.h e.h.length d with
      | some d' => .ok d' ⟨e.ρ, e'.h.take e.h.length⟩
      | none => .stuck
    else .stuck
  | .ex x fs e' => .ex x fs e'
  | .stuck => .stuck
section
variable {X : Cx} {C : Ct} {e : Expr}
theorem imDrop {f : M D} (σ : L2.St) (H : Hp) (Q : VK) (h : tF C (dropM f) σ H Q) : tF C f σ H Q := by
  obtain ⟨G, ι, en, k, h⟩ := h
  refine ⟨G, ι, en, k, ?_⟩
  unfold dropM at h
  cases q : f en with
  | ok d e' =>
    rw [q] at h
    dsimp only at h
    split at h
    · rename_i c
      split at h
      · rename_i d' hd
        intro G' ι' H' u k' v r
        obtain ⟨a1, a2, a3, a4⟩ := k'.hs.drop k.hs u c.1 c.2.1
        have up : Up G ι (stayG G' H' (ι'.drop en.h.length)) ι := ⟨u.g.trans a1, List.prefix_refl _⟩
        exact h _ ι H' up ⟨a2, k.sl.up up, k'.tb⟩ v (r.fz k'.hs a1 a3 a4 hd)
      · exact h.elim
    · exact h.elim
  | ex x fs e' =>
    rw [q] at h
    exact h
  | stuck =>
    rw [q] at h
    exact h
theorem v_drop {f : M D} (p : PE X e (tF C f)) : PE X e (tF C (dropM f)) := imE p imDrop
theorem v_lc {t : Tg} {vs : List Nat} {fi : M (List D)} {tt : M Bool} {f : M D} (hv : ∀ i ∈ t.slots, i ∈ vs) (p : PE X e (tLc (tFI C fi) (t.g C.K) (tFB C.nox tt) (tF C.nox f) vs)) : PE X e (tF C (lcP t vs fi tt f)) := imE p (imLcP hv)
theorem s_setLc {st : Stmt} {i : Nat} {t : Tg} {vs : List Nat} {fi : M (List D)} {tt : M Bool} {f : M D} (hv : ∀ i ∈ t.slots, i ∈ vs) (p : PS X st (tAsg (tLc (tFI C fi) (t.g C.K) (tFB C.nox tt) (tF C.nox f) vs) (gName i))) : PS X st (tFS C (setM (lcP t vs fi tt f) (putS i))) :=
  s_set (imS p fun Z σ H h => imLcP hv σ H _ h)
theorem s_setLcD {st : Stmt} {i : Nat} {t : Tg} {vs : List Nat} {fi : M (List D)} {tt : M Bool} {f : M D} (hv : ∀ i ∈ t.slots, i ∈ vs) (p : PS X st (tAsg (tLc (tFI C fi) (t.g C.K) (tFB C.nox tt) (tF C.nox f) vs) (gName i))) : PS X st (tFS C (setM (dropM (lcP t vs fi tt f)) (putS i))) :=
  s_set (imS p fun Z σ H h => imLcP hv σ H _ (imDrop σ H _ h))
theorem ts_nil : PTs X [] (tFB C (ret true)) := ⟨fun pins s σ H Q I h => pts_nil.run pins s σ H Q I (by
  obtain ⟨G, ι, en, k, h⟩ := h
  exact PX.now (a := true) h k)⟩
theorem ts_one {c : Expr} {f : M Bool} (h : PT X c (tFB C f)) : PTs X [c] (tFB C f) := pts_one h
end
/-! ### methods that change a thing -/
/-- g: a thing and arguments; what is told and what the thing is then -/
def MtU (K : PySem.W.Frag) (r : V → List V → Hp → VK → Prop) (g : List Ob → Ob → List D → Option (D × Ob)) : Prop := ∀ (G : Hp) (ι : List Addr) (H : Hp) (h : List Ob) (a : Addr) (o o' : Ob) (ds : List D) (vs : List V) (d : D) (Q : VK), Hs K G ι H h → ObOk K G ι H a o → RDs K G ι ds vs →
  g h o ds = some (d, o') → (∀ ho w, ObOk K G ι (upd H a ho) a o' → RD K G ι d w → Q w (upd H a ho)) → r (.ref a) vs H Q
def mutE (h : List Ob) (x : D) (g : Ob → Option (D × Ob)) : Option (D × List Ob) := match x with
  | .ref k => match h[k]? with
    | some o => match g o with
      | some (d, o') => some (d, h.set k o')
      | none => none
    | none => none
  | _ => none
def mtM (T : String) (g : List Ob → Ob → List D → Option (D × Ob)) (fo : M D) (fa : M (List D)) : M D := bnd fo fun x => bnd (fun e => match x with
    | .ref k => match e.h[k]?, T with
      | some (.lst _), "list" => .ok () e
      | some (.dic _ _), "dict" => .ok () e
      | _, _ => .stuck
    | _ => .stuck : M Unit) fun _ => bnd fa fun ds e => match mutE e.h x fun o => g e.h o ds with
  | some (d, h') => .ok d ⟨e.ρ, h'⟩
  | none => .stuck
section
variable {X : Cx} {C : Ct} {e : Expr}
theorem ObOk.obj {K : PySem.W.Frag} {G H : Hp} {ι : List Addr} {a : Addr} {o : Ob} (q : ObOk K G ι H a o) : ∃ ho, H a = some ho ∧ (∀ ps, ho ≠ .tbl ps) ∧ ∀ c q, ho ≠ LamX.CodeO c q := by
  cases o with
  | lst xs =>
    obtain ⟨vs, h1, h2⟩ := q
    exact ⟨_, h1, (fun _ z => by cases z), (fun _ _ z => by unfold LamX.CodeO at z; cases z)⟩
  | dic ks ds =>
    obtain ⟨vs, h1, h2⟩ := q
    exact ⟨_, h1, (fun _ z => by cases z), (fun _ _ z => by unfold LamX.CodeO at z; cases z)⟩
  | ins c fs =>
    obtain ⟨dx, vs, h1, h2⟩ := q
    exact ⟨_, h1, (fun _ z => by cases z), (fun _ _ z => by unfold LamX.CodeO at z; cases z)⟩
  | td w ks =>
    obtain ⟨xs, h1, h2⟩ := q
    exact ⟨_, h1, (fun _ z => by cases z), fun _ _ => tupD_ne⟩
theorem Ok.mut {K : PySem.W.Frag} {T : List (Addr × Str)} {G H : Hp} {ι : List Addr} {σ : L2.St} {en : En} {k : Nat} {a : Addr} {o o' : Ob} {ho : HO} (ok : Ok K T G ι H σ en) (hk : ι[k]? = some a) (hq : en.h[k]? = some o) (q : ObOk K G ι (upd H a ho) a o') : Ok K T G ι (upd H a ho) σ ⟨en.ρ, en.h.set k o'⟩ := by
  obtain ⟨ob, h1, h2, h3⟩ := (ok.hs.cell hk hq).obj
  exact ⟨ok.hs.set hk q, ok.sl, tabs_upd2 ok.tb h1 h2 h3⟩
theorem mut_ok {Q : VK} {G H : Hp} {ι : List Addr} {σ : L2.St} {en : En} {x : D} {v : V} {ds : List D} {vs : List V} {r : V → List V → Hp → VK → Prop} {g : List Ob → Ob → List D → Option (D × Ob)} (s : MtU C.K r g) (k : Ok C.K C.T G ι H σ en) (rx : RD C.K G ι x v) (rs : RDs C.K G ι ds vs)
    (h : PX C G ι σ (match mutE en.h x fun o => g en.h o ds with
      | some (d, h') => .ok d ⟨en.ρ, h'⟩
      | none => .stuck) fun d _ G' ι' H' => ∀ v, RD C.K G' ι' d v → Q v H') : r v vs H Q := by
  unfold mutE at h
  cases rx with
  | @ref j a hj =>
    dsimp only at h
    cases hc : en.h[j]? with
    | none =>
      rw [hc] at h
      exact h.elim
    | some o =>
      rw [hc] at h
      dsimp only at h
      cases hg : g en.h o ds with
      | none =>
        rw [hg] at h
        exact h.elim
      | some p =>
        obtain ⟨d, o'⟩ := p
        rw [hg] at h
        exact s G ι H en.h a o o' ds vs d Q k.hs (k.hs.cell hj hc) rs hg fun ho w q rw => h G ι _ Up.refl (k.mut hj hc q) w rw
  | _ => exact h.elim
theorem v_mt {T : String} {r : V → List V → Hp → VK → Prop} {g : List Ob → Ob → List D → Option (D × Ob)} {fo : M D} {fa : M (List D)} (s : MtU C.K r g) (p : PE X e (tBM C.K T r (tF C fo) (tFA C fa))) : PE X e (tF C (mtM T g fo fa)) := imE p fun σ H Q h => by
  obtain ⟨G, ι, en, k, h⟩ := h
  refine ⟨G, ι, en, k, PX.imp h.bnd fun x e1 G1 ι1 H1 u1 k1 q1 v rx => ?_⟩
  have q2 := PX.bnd q1
  cases rx with
  | @ref j a hj =>
    dsimp only at q2
    split at q2
    · rename_i xs hc
      obtain ⟨us, h1, h2⟩ := k1.hs.cell hj hc
      refine ⟨.inl ⟨rfl, us, SqL.of h1⟩, G1, ι1, e1, k1, PX.imp (PX.bnd (q2.now k1)) fun ds e2 G2 ι2 H2 u2 k2 q3 vs rs => ?_⟩
      exact mut_ok s k2 (RD.ref (pre_get u2.i hj)) rs q3
    · rename_i ks ds hc
      obtain ⟨us, h1, h2⟩ := k1.hs.cell hj hc
      refine ⟨.inr (.inr (.inl ⟨rfl, .inl ⟨us, h1⟩⟩)), G1, ι1, e1, k1, PX.imp (PX.bnd (q2.now k1)) fun ds e2 G2 ι2 H2 u2 k2 q3 vs rs => ?_⟩
      exact mut_ok s k2 (RD.ref (pre_get u2.i hj)) rs q3
    · exact q2.elim
  | _ => exact q2.elim
theorem v_mt0 {T : String} {r : V → List V → Hp → VK → Prop} {g : List Ob → Ob → List D → Option (D × Ob)} {fo : M D} (s : MtU C.K r g) (p : PE X e (tBM0 C.K T r (tF C fo))) : PE X e (tF C (mtM T g fo nilM)) := imE p fun σ H Q h => by
  obtain ⟨G, ι, en, k, h⟩ := h
  refine ⟨G, ι, en, k, PX.imp h.bnd fun x e1 G1 ι1 H1 u1 k1 q1 v rx => ?_⟩
  have q2 := PX.bnd q1
  cases rx with
  | @ref j a hj =>
    dsimp only at q2
    split at q2
    · rename_i xs hc
      obtain ⟨us, h1, h2⟩ := k1.hs.cell hj hc
      exact ⟨.inl ⟨rfl, us, SqL.of h1⟩, mut_ok (ds := []) s k1 (RD.ref hj) .nil (q2.now k1)⟩
    · rename_i ks ds hc
      obtain ⟨us, h1, h2⟩ := k1.hs.cell hj hc
      exact ⟨.inr (.inr (.inl ⟨rfl, .inl ⟨us, h1⟩⟩)), mut_ok (ds := []) s k1 (RD.ref hj) .nil (q2.now k1)⟩
    · exact q2.elim
  | _ => exact q2.elim
end
section
variable {K : PySem.W.Frag}
def appendO : List Ob → Ob → List D → Option (D × Ob)
  | _, .lst xs, [d] => if xs.length < 1000000 then some (.non, .lst (xs ++ [d])) else none
  | _, _, _ => none
theorem lim6 {n : Nat} (h : n < 1000000) : n < sizeLine := Nat.lt_of_lt_of_le h (by decide)
theorem s_append : MtU K rAppend appendO := by
  intro G ι H h a o o' ds vs d Q s q rs e k
  unfold appendO at e
  split at e
  · rename_i xs y
    split at e
    · rename_i c
      cases e
      obtain ⟨us, h1, h2⟩ := q
      obtain ⟨v, rfl, r⟩ := rs.one_of
      exact ⟨a, us, v, rfl, rfl, h1, by rw [h2.1]; exact lim6 c, k _ _ ⟨_, upd_same, h2.append (.one r)⟩ .non⟩
    · cases e
  · cases e
def popO : List Ob → Ob → List D → Option (D × Ob)
  | _, .lst xs, [] => match xs[xs.length - 1]? with
    | some d => some (d, .lst xs.dropLast)
    | none => none
  | _, _, _ => none
theorem RDs.dropLast {G : Hp} {ι : List Addr} {xs : List D} {vs : List V} (r : RDs K G ι xs vs) : RDs K G ι xs.dropLast vs.dropLast := by
  rw [List.dropLast_eq_take, List.dropLast_eq_take, r.1]
  exact r.take _
theorem s_pop : MtU K rPop popO := by
  intro G ι H h a o o' ds vs d Q s q rs e k
  unfold popO at e
  split at e
  · rename_i xs
    split at e
    · rename_i y hy
      cases e
      obtain ⟨us, h1, h2⟩ := q
      obtain ⟨v, hv, rv⟩ := h2.get hy
      rw [rs.inv_nil]
      exact ⟨a, us, v, rfl, rfl, h1, by rw [h2.1]; exact hv, k _ _ ⟨_, upd_same, h2.dropLast⟩ rv⟩
    · cases e
  · cases e
def clearO : List Ob → Ob → List D → Option (D × Ob)
  | _, .lst _, [] => some (.non, .lst [])
  | _, _, _ => none
theorem s_clear : MtU K rClear clearO := by
  intro G ι H h a o o' ds vs d Q s q rs e k
  unfold clearO at e
  split at e
  · cases e
    obtain ⟨us, h1, h2⟩ := q
    rw [rs.inv_nil]
    exact ⟨a, us, rfl, rfl, h1, k _ _ ⟨_, upd_same, .nil⟩ .non⟩
  · cases e
def extendO : List Ob → Ob → List D → Option (D × Ob)
  | h, .lst xs, [d] => match lstOf h d with
    | some ys => if xs.length + ys.length ≤ 1000000 then some (.non, .lst (xs ++ ys)) else none
    | none => none
  | _, _, _ => none
theorem s_extend : MtU K rExtend extendO := by
  intro G ι H h a o o' ds vs d Q s q rs e k
  unfold extendO at e
  split at e
  · rename_i xs y
    split at e
    · rename_i ys hy
      split at e
      · rename_i c
        cases e
        obtain ⟨us, h1, h2⟩ := q
        obtain ⟨v, rfl, r⟩ := rs.one_of
        obtain ⟨b, ws, rfl, h3, h4⟩ := lst_rd s r hy
        exact ⟨a, b, us, ws, rfl, rfl, h1, h3, by rw [h2.1, h4.1]; exact Nat.le_trans c (by decide), k _ _ ⟨_, upd_same, h2.append h4⟩ .non⟩
      · cases e
    · cases e
  · cases e
end
/-! ### methods that only look -/
def MtN (K : PySem.W.Frag) (r : V → List V → Hp → VK → Prop) (T : String) (g : List Ob → D → List D → Option D) : Prop := ∀ (G : Hp) (ι : List Addr) (H : Hp) (h : List Ob) (x d : D) (v : V) (ds : List D) (vs : List V) (Q : VK), Hs K G ι H h → RD K G ι x v → RDs K G ι ds vs → g h x ds = some d →
  (∀ G' H' w, Same G G' → Same H H' → Hs K G' ι H' h → RD K G' ι d w → Q w H') → r v vs H Q
def tyD (h : List Ob) : D → Option String
  | .str _ => some "str"
  | .int _ => some "int"
  | .lst _ => some "list"
  | .scr _ => some "list"
  | .dic _ _ => some "dict"
  | .ref k => match h[k]? with
    | some (.lst _) => some "list"
    | some (.dic _ _) => some "dict"
    | _ => none
  | _ => none
theorem tyD_ok {K : PySem.W.Frag} {G H : Hp} {ι : List Addr} {h : List Ob} {x : D} {v : V} {T : String} (s : Hs K G ι H h) (r : RD K G ι x v) (e : tyD h x = some T) : tyV K T v H := by
  cases r with
  | str x => cases e; rfl
  | int x => cases e; rfl
  | lst hh l q => cases e; exact .inl ⟨rfl, _, SqL.of (s.s _ _ hh)⟩
  | scr hh l q => cases e; exact .inl ⟨rfl, _, s.s.seq hh⟩
  | dic hh _ _ _ => cases e; exact .inr (.inr (.inl ⟨rfl, .inl ⟨_, s.s _ _ hh⟩⟩))
  | @ref k a hk =>
    have e : (match h[k]? with
      | some (.lst _) => some "list"
      | some (.dic _ _) => some "dict"
      | _ => none) = some T := e
    split at e
    · rename_i xs hx
      cases e
      obtain ⟨vs, h1, _⟩ := s.cell hk hx
      exact .inl ⟨rfl, _, SqL.of h1⟩
    · rename_i ks xs hx
      cases e
      obtain ⟨vs, h1, _⟩ := s.cell hk hx
      exact .inr (.inr (.inl ⟨rfl, .inl ⟨_, h1⟩⟩))
    · cases e
  | _ => cases e
def mnM (T : String) (g : List Ob → D → List D → Option D) (fo : M D) (fa : M (List D)) : M D := bnd fo fun x => bnd (lft fun h => if tyD h x = some T then some () else none) fun _ => bnd fa fun ds => lft fun h => g h x ds
section
variable {X : Cx} {C : Ct} {e : Expr}
theorem v_mn {T : String} {r : V → List V → Hp → VK → Prop} {g : List Ob → D → List D → Option D} {fo : M D} {fa : M (List D)} (s : MtN C.K r T g) (p : PE X e (tBM C.K T r (tF C fo) (tFA C fa))) : PE X e (tF C (mnM T g fo fa)) := imE p fun σ H Q h => by
  obtain ⟨G, ι, en, k, h⟩ := h
  refine ⟨G, ι, en, k, PX.imp h.bnd fun x e1 G1 ι1 H1 u1 k1 q1 v rx => ?_⟩
  obtain ⟨_, ht, q2⟩ := (PX.bnd q1).lft
  split at ht
  · rename_i c
    refine ⟨tyD_ok k1.hs rx c, G1, ι1, e1, k1, PX.imp (PX.bnd (q2.now k1)) fun ds e2 G2 ι2 H2 u2 k2 q3 vs rs => ?_⟩
    obtain ⟨d, hd, q⟩ := q3.lft
    exact s G2 ι2 H2 e2.h x d v ds vs Q k2.hs (rx.up u2) rs hd fun G' H' w g1 s1 hs r => q G' ι2 H' ⟨g1, List.prefix_refl _⟩ (k2.grow g1 s1 hs) w r
  · cases ht
theorem v_mn0 {T : String} {r : V → List V → Hp → VK → Prop} {g : List Ob → D → List D → Option D} {fo : M D} (s : MtN C.K r T g) (p : PE X e (tBM0 C.K T r (tF C fo))) : PE X e (tF C (mnM T g fo nilM)) := imE p fun σ H Q h => by
  obtain ⟨G, ι, en, k, h⟩ := h
  refine ⟨G, ι, en, k, PX.imp h.bnd fun x e1 G1 ι1 H1 u1 k1 q1 v rx => ?_⟩
  obtain ⟨_, ht, q2⟩ := (PX.bnd q1).lft
  split at ht
  · rename_i c
    refine ⟨tyD_ok k1.hs rx c, ?_⟩
    obtain ⟨d, hd, q⟩ := (show PX C G1 ι1 σ (lft (fun h => g h x []) e1) _ from q2.now k1).lft
    exact s G1 ι1 H1 e1.h x d v [] [] Q k1.hs rx .nil hd fun G' H' w g1 s1 hs r => q G' ι1 H' ⟨g1, List.prefix_refl _⟩ (k1.grow g1 s1 hs) w r
  · cases ht
end
/-- xs.index(y) of flat things -/
def findF (y : D) : List D → Option Nat
  | [] => none
  | x :: xs => if eqV (dV x) (dV y) then some 0 else (findF y xs).map (· + 1)
def indexD : List Ob → D → List D → Option D
  | h, x, [y] => match lsqOf h x with
    | some xs => if flatD y = true ∧ xs.all flatD = true then (findF y xs).map fun j => .int (j : Nat) else none
    | none => none
  | _, _, _ => none
theorem findF_ok {y : D} : ∀ {xs : List D} {j : Nat}, findF y xs = some j → ∃ z, (xs.map dV)[j]? = some z ∧ eqV z (dV y) = true ∧ ∀ m z, m < j → (xs.map dV)[m]? = some z → eqV z (dV y) = false
  | [], j, e => by cases e
  | x :: xs, j, e => by
    unfold findF at e
    split at e
    · rename_i c
      cases e
      exact ⟨dV x, rfl, c, fun m z hm => by omega⟩
    · rename_i c
      obtain ⟨i, e1, rfl⟩ := Option.map_eq_some_iff.mp e
      obtain ⟨z, h1, h2, h3⟩ := findF_ok e1
      refine ⟨z, by simpa using h1, h2, fun m z hm hz => ?_⟩
      cases m with
      | zero =>
        have : dV x = z := by simpa using hz
        rw [← this]
        simpa using c
      | succ m => exact h3 m z (by omega) (by simpa using hz)
theorem s_index {K : PySem.W.Frag} : MtN K (rIndex K) "list" indexD := by
  intro G ι H h x d v ds vs Q s rx rs e q
  unfold indexD at e
  split at e
  · rename_i y
    split at e
    · rename_i xs hx
      split at e
      · rename_i c
        obtain ⟨j, e1, rfl⟩ := Option.map_eq_some_iff.mp e
        obtain ⟨w, rfl, ry⟩ := rs.one_of
        obtain ⟨a, us, rfl, h1, h2⟩ := lsq_rd s rx hx
        obtain ⟨b1, b2⟩ := flat_rd ry c.1
        obtain ⟨c1, c2⟩ := flats_rd h2 c.2
        obtain ⟨z, f1, f2, f3⟩ := findF_ok e1
        refine ⟨a, us, w, j, z, rfl, rfl, h1, b2, c2, by rw [c1]; exact f1, by rw [b1]; exact f2, fun m z hm hz => ?_, q G H _ (Same.refl _) (Same.refl _) s (.int _)⟩
        rw [c1] at hz
        rw [b1]
        exact f3 m z hm hz
      · cases e
    · cases e
  · cases e
end Fv


set_option Elab.async false
set_option linter.all false
set_option maxRecDepth 100000
set_option maxHeartbeats 4000000
set_option autoImplicit false
namespace Fv
open PySem PySem.Spec PyProof.Rows L2 Bm
/-! ### xs[i] = e -/
def setItem (h : List Ob) (o i v : D) : Option (List Ob) := match o, i with
  | .ref k, .int j => match h[k]? with
    | some (.lst xs) => match ixN xs.length j with
      | some m => some (h.set k (.lst (xs.set m v)))
      | none => none
    | _ => none
  | _, _ => none
def setI (f fo fi : M D) : M Fl := bnd f fun v => bnd fo fun o => bnd fi fun i e => match setItem e.h o i v with
  | some h' => .ok .nx ⟨e.ρ, h'⟩
  | none => .stuck
section
variable {X : Cx} {C : Ct} {st : Stmt} {e : Expr}
theorem setL_ok {G H : Hp} {ι : List Addr} {σ : L2.St} {en : En} {o i v : D} {uo ui uv : V} {h' : List Ob} {Q : Hp → Prop} (k : Ok C.K C.T G ι H σ en) (ro : RD C.K G ι o uo) (ri : RD C.K G ι i ui) (rv : RD C.K G ι v uv) (e : setItem en.h o i v = some h')
    (q : ∀ H', Ok C.K C.T G ι H' σ ⟨en.ρ, h'⟩ → Q H') : rSetL uo ui uv H Q := by
  unfold setItem at e
  split at e
  · rename_i j m
    cases ri
    cases ro with
    | @ref _ a hj =>
      split at e
      · rename_i xs hx
        split at e
        · rename_i p hp
          cases e
          obtain ⟨vs, h1, h2⟩ := k.hs.cell hj hx
          refine ⟨a, vs, _, p, rfl, rfl, h1, by rw [h2.1]; exact hp, q _ (k.mut hj hx ⟨_, upd_same, h2.set rv⟩)⟩
        · cases e
      · cases e
  · cases e
theorem s_setI {f fo fi : M D} (p : PS X st (tAsg (tF C f) (gSub (tF C fo) (tF C fi) rSetL))) : PS X st (tFS C (setI f fo fi)) := imS p fun Z σ H h => by
  obtain ⟨G, ι, en, k, h⟩ := h
  refine ⟨G, ι, en, k, PX.imp (PS'.bnd h) fun v e1 G1 ι1 H1 u1 k1 q1 uv rv => ⟨G1, ι1, e1, k1, PX.imp (PS'.bnd q1) fun o e2 G2 ι2 H2 u2 k2 q2 uo ro => ⟨G2, ι2, e2, k2, PX.imp (PS'.bnd q2) fun i e3 G3 ι3 H3 u3 k3 q3 ui ri => ?_⟩⟩⟩
  split at q3
  · rename_i h' hh
    exact setL_ok k3 (ro.up u3) ri ((rv.up u2).up u3) hh fun H' k' => q3 G3 ι3 H' σ Up.refl k'
  · exact q3.elim
/-- xs[i] op= e -/
def augI (g : List Ob → D → D → Option D) (fo fi f : M D) : M Fl := bnd fo fun o => bnd fi fun i => bnd (lft fun h => match lstOf h o with
    | some xs => match i with
      | .int j => atI xs j
      | _ => none
    | none => none) fun x => bnd f fun y => bnd (lft fun h => g h x y) fun v e => match setItem e.h o i v with
  | some h' => .ok .nx ⟨e.ρ, h'⟩
  | none => .stuck
end
/-! ### fields -/
def insOf (h : List Ob) (x : D) : Option (Str × List (Str × D)) := match x with
  | .ref k => match h[k]? with
    | some (.ins c fs) => some (c, fs)
    | _ => none
  | .obj c ns ds => some (c, ns.zip ds)
  | _ => none
def fldM (cs : List Str) (f : Str) (fo : M D) : M D := bnd fo fun x => lft fun h => match insOf h x with
  | some (c', fs) => if c' ∈ cs then fs.lookup f else none
  | none => none
theorem RF.get {K : PySem.W.Frag} {G : Hp} {ι : List Addr} {fs : List (Str × D)} {gs : List (Str × V)} (r : RF K G ι fs gs) {f : Str} {d : D} (e : fs.lookup f = some d) : ∃ v, gs.lookup f = some v ∧ RD K G ι d v := by
  obtain ⟨r1, r2⟩ := r
  induction fs generalizing gs with
  | nil => cases e
  | cons p fs ih =>
    cases gs with
    | nil => cases r1
    | cons q gs =>
      obtain ⟨n, x⟩ := p
      obtain ⟨m, y⟩ := q
      rw [List.map_cons, List.map_cons] at r1
      injection r1 with a1 a2
      have a1 : m = n := a1
      subst a1
      obtain ⟨v, vs, b1, b2, b3⟩ := r2.inv_cons
      injection b1 with b4 b5
      subst b5
      have b4 : y = v := b4
      subst b4
      rw [List.lookup_cons] at e ⊢
      split at e
      · rename_i c
        cases e
        exact ⟨y, rfl, b2⟩
      · rename_i c
        exact ih e a2 b3
theorem RF.none {K : PySem.W.Frag} {G : Hp} {ι : List Addr} {fs : List (Str × D)} {gs : List (Str × V)} (r : RF K G ι fs gs) {f : Str} (e : fs.lookup f = none) : gs.lookup f = none := by
  obtain ⟨r1, r2⟩ := r
  clear r2
  induction fs generalizing gs with
  | nil =>
    cases gs with
    | nil => rfl
    | cons q gs => cases r1
  | cons p fs ih =>
    cases gs with
    | nil => cases r1
    | cons q gs =>
      obtain ⟨n, x⟩ := p
      obtain ⟨m, y⟩ := q
      rw [List.map_cons, List.map_cons] at r1
      injection r1 with a1 a2
      have a1 : m = n := a1
      subst a1
      rw [List.lookup_cons] at e ⊢
      split at e
      · cases e
      · rename_i c
        exact ih e a2
def putFD (f : Str) (d : D) : List (Str × D) → List (Str × D)
  | [] => [(f, d)]
  | (g, x) :: r => if g = f then (f, d) :: r else (g, x) :: putFD f d r
theorem RF.put {K : PySem.W.Frag} {G : Hp} {ι : List Addr} {f : Str} {d : D} {v : V} (rd : RD K G ι d v) : ∀ {fs : List (Str × D)} {gs : List (Str × V)}, RF K G ι fs gs → RF K G ι (putFD f d fs) (putF f v gs) := by
  intro fs
  induction fs with
  | nil =>
    intro gs r
    cases gs with
    | nil => exact ⟨rfl, .one rd⟩
    | cons q gs => cases r.1
  | cons p fs ih =>
    intro gs r
    obtain ⟨r1, r2⟩ := r
    cases gs with
    | nil => cases r1
    | cons q gs =>
      obtain ⟨n, x⟩ := p
      obtain ⟨m, y⟩ := q
      rw [List.map_cons, List.map_cons] at r1
      injection r1 with a1 a2
      have a1 : m = n := a1
      subst a1
      obtain ⟨w, vs, b1, b2, b3⟩ := r2.inv_cons
      injection b1 with b4 b5
      subst b5
      have b4 : y = w := b4
      subst b4
      by_cases hf : m = f
      · subst hf
        have e1 : putFD m d ((m, x) :: fs) = (m, d) :: fs := by unfold putFD; rw [if_pos rfl]
        have e2 : putF m v ((m, y) :: gs) = (m, v) :: gs := by unfold putF; simp
        rw [e1, e2]
        exact ⟨by rw [List.map_cons, List.map_cons, a2], .cons rd b3⟩
      · have e1 : putFD f d ((m, x) :: fs) = (m, x) :: putFD f d fs := by
          conv => lhs; unfold putFD
          rw [if_neg hf]
        have e2 : putF f v ((m, y) :: gs) = (m, y) :: putF f v gs := by
          conv => lhs; unfold putF
          simp [hf]
        obtain ⟨c1, c2⟩ := ih ⟨a2, b3⟩
        rw [e1, e2]
        exact ⟨by rw [List.map_cons, List.map_cons, c1], .cons b2 c2⟩
section
variable {X : Cx} {C : Ct} {st : Stmt} {e : Expr}
theorem ins_rd {K : PySem.W.Frag} {G H : Hp} {ι : List Addr} {h : List Ob} {x : D} {v : V} {c : Str} {fs : List (Str × D)} (s : Hs K G ι H h) (r : RD K G ι x v) (e : insOf h x = some (c, fs)) : ∃ a dx gs, v = .ref a ∧ H a = some (.ins (He.ga K c) dx gs) ∧ RF K G ι fs gs := by
  cases r with
  | @ref k a hk =>
    have e : (match h[k]? with
      | some (.ins c fs) => some (c, fs)
      | _ => none) = some (c, fs) := e
    split at e
    · rename_i c' fs' hx
      cases e
      obtain ⟨dx, gs, h1, h2⟩ := s.cell hk hx
      exact ⟨a, dx, gs, rfl, h1, h2⟩
    · cases e
  | @obj a dx gs c' ns ds hh hk l q =>
    cases e
    have hl : ns.length = ds.length := by rw [← l, ← hk, List.length_map]
    refine ⟨a, dx, gs, rfl, s.s _ _ hh, ?_, ?_⟩
    · rw [hk, List.map_fst_zip (by omega)]
    · rw [List.map_snd_zip (by omega)]
      refine ⟨by rw [List.length_map]; exact l, fun i d v a b => ?_⟩
      rw [List.getElem?_map] at b
      obtain ⟨g, b1, rfl⟩ := Option.map_eq_some_iff.mp b
      exact q i d g a b1
  | _ => cases e
theorem v_fld {cs : List Str} {f : Str} {fo : M D} (hc : ∀ c ∈ cs, Cls C.K (He.ga C.K c) ∧ NoAttr C.K (He.ga C.K c) f) (p : PE X e (tFld C.K (tF C fo) f)) : PE X e (tF C (fldM cs f fo)) := imE p fun σ H Q h => by
  obtain ⟨G, ι, en, k, h⟩ := h
  refine ⟨G, ι, en, k, PX.imp h.bnd fun x e1 G1 ι1 H1 u1 k1 q1 v rx => ?_⟩
  obtain ⟨d, hd, q⟩ := q1.lft
  split at hd
  · rename_i c' fs hi
    split at hd
    · rename_i ec
      obtain ⟨a, dx, gs, rfl, h1, h2⟩ := ins_rd k1.hs rx hi
      obtain ⟨w, hw, rw⟩ := h2.get hd
      exact ⟨a, _, dx, gs, w, rfl, h1, (hc _ ec).1, (hc _ ec).2, hw, q.now k1 w rw⟩
    · cases hd
  · cases hd
def setFld (h : List Ob) (cs : List Str) (f : Str) (x d : D) : Option (List Ob) := match x with
  | .ref k => match h[k]? with
    | some (.ins c fs) => if c ∈ cs ∧ fs.length < 100 then some (h.set k (.ins c (putFD f d fs))) else none
    | _ => none
  | _ => none
def setF (cs : List Str) (f : Str) (fo fv : M D) : M Fl := bnd fv fun d => bnd fo fun x e => match setFld e.h cs f x d with
  | some h' => .ok .nx ⟨e.ρ, h'⟩
  | none => .stuck
theorem RF.len {K : PySem.W.Frag} {G : Hp} {ι : List Addr} {fs : List (Str × D)} {gs : List (Str × V)} (r : RF K G ι fs gs) : gs.length = fs.length := by
  have := congrArg List.length r.1
  simpa using this
theorem setFld_ok {cs : List Str} {f : Str} {G H : Hp} {ι : List Addr} {σ : L2.St} {en : En} {x d : D} {v w : V} {h' : List Ob} {Q : Hp → Prop} (hc : ∀ c ∈ cs, Cls C.K (He.ga C.K c) ∧ NoAttr C.K (He.ga C.K c) f) (k : Ok C.K C.T G ι H σ en) (rx : RD C.K G ι x v) (rd : RD C.K G ι d w) (e : setFld en.h cs f x d = some h')
    (q : ∀ H', Ok C.K C.T G ι H' σ ⟨en.ρ, h'⟩ → Q H') : ∃ a Cc dx fs, v = .ref a ∧ H a = some (.ins Cc dx fs) ∧ Cls C.K Cc ∧ NoAttr C.K Cc f ∧ fs.length < 1000 ∧ Q (upd H a (.ins Cc dx (putF f w fs))) := by
  unfold setFld at e
  cases rx with
  | @ref j a hj =>
    dsimp only at e
    split at e
    · rename_i c' fs hx
      split at e
      · rename_i cc
        cases e
        obtain ⟨c1, c2⟩ := cc
        obtain ⟨dx, gs, h1, h2⟩ := k.hs.cell hj hx
        exact ⟨a, _, dx, gs, rfl, h1, (hc _ c1).1, (hc _ c1).2, by rw [h2.len]; omega, q _ (k.mut hj hx ⟨dx, _, upd_same, h2.put rd⟩)⟩
      · cases e
    · cases e
  | _ => cases e
theorem s_setF {cs : List Str} {f : Str} {fo fv : M D} (hc : ∀ c ∈ cs, Cls C.K (He.ga C.K c) ∧ NoAttr C.K (He.ga C.K c) f) (p : PS X st (sFld C.K (tF C fo) (tF C fv) f)) : PS X st (tFS C (setF cs f fo fv)) := imS p fun Z σ H h => by
  obtain ⟨G, ι, en, k, h⟩ := h
  refine ⟨G, ι, en, k, PX.imp (PS'.bnd h) fun d e1 G1 ι1 H1 u1 k1 q1 w rw => ⟨G1, ι1, e1, k1, PX.imp (PS'.bnd q1) fun x e2 G2 ι2 H2 u2 k2 q2 v rx => ?_⟩⟩
  split at q2
  · rename_i h' hh
    exact setFld_ok hc k2 rx (rw.up u2) hh fun H' k' => q2 G2 ι2 H' σ Up.refl k'
  · exact q2.elim
def augF (cs : List Str) (f : Str) (g : List Ob → D → D → Option D) (fo fv : M D) : M Fl := bnd fo fun x => bnd (lft fun h => match insOf h x with
  | some (c', fs) => if c' ∈ cs then (fs.lookup f).map fun v => (c', v) else none
  | none => none) fun a => bnd fv fun b => bnd (lft fun h => g h a.2 b) fun d e => match setFld e.h [a.1] f x d with
  | some h' => .ok .nx ⟨e.ρ, h'⟩
  | none => .stuck
theorem s_augF {cs : List Str} {f : Str} {g : List Ob → D → D → Option D} {r : V → V → Hp → VK → Prop} {fo fv : M D} (s : Op2 C.K r g) (hc : ∀ c ∈ cs, Cls C.K (He.ga C.K c) ∧ NoAttr C.K (He.ga C.K c) f) (p : PS X st (sFldAug C.K (tF C fo) (tF C fv) r f)) : PS X st (tFS C (augF cs f g fo fv)) := imS p fun Z σ H h => by
  obtain ⟨G, ι, en, k, h⟩ := h
  refine ⟨G, ι, en, k, PX.imp (PS'.bnd h) fun x e1 G1 ι1 H1 u1 k1 q1 v rx => ?_⟩
  obtain ⟨a0, ha, q2⟩ := (PS'.bnd (σ := σ) q1).lft
  split at ha
  · rename_i c' fs hi
    split at ha
    · rename_i ec
      obtain ⟨v0, hv0, hp⟩ := Option.map_eq_some_iff.mp ha
      subst hp
      obtain ⟨a, dx, gs, rfl, h1, h2⟩ := ins_rd k1.hs rx hi
      obtain ⟨w, hw, rw⟩ := h2.get hv0
      refine ⟨a, _, dx, gs, w, rfl, h1, (hc _ ec).1, (hc _ ec).2, hw, G1, ι1, e1, k1, PX.imp (PS'.bnd (q2.now k1)) fun b e2 G2 ι2 H2 u2 k2 q3 t rt => ?_⟩
      obtain ⟨d, hd, q4⟩ := (PS'.bnd (σ := σ) q3).lft
      refine s G2 ι2 H2 e2.h v0 b d w t _ k2.hs (rw.up u2) rt hd fun G' H' z g1 s1 hs rz => ?_
      have k3 := k2.grow g1 s1 hs
      have up3 : Up G2 ι2 G' ι2 := ⟨g1, List.prefix_refl _⟩
      have q5 : PS' C Z G' ι2 (match setFld e2.h [c'] f x d with
        | some h' => .ok .nx ⟨e2.ρ, h'⟩
        | none => .stuck) := q4 G' ι2 H' up3 k3
      split at q5
      · rename_i h' hh
        obtain ⟨a', C', dx', fs', z1, z2, z3, z4, z5, z6⟩ := setFld_ok (fun c0 h0 => by rw [List.mem_singleton.mp h0]; exact hc _ ec) k3 ((rx.up u2).up up3) rz hh fun H' k' => q5 G' ι2 H' σ Up.refl k'
        cases z1
        have r3 := (rx.up u2).up up3
        unfold setFld at hh
        split at hh
        · rename_i jj
          split at hh
          · rename_i c2 fs2 hx2
            split at hh
            · rename_i cc
              cases r3 with
              | ref hj3 =>
                obtain ⟨dx3, gs3, y1, y2⟩ := k3.hs.cell hj3 hx2
                rw [z2] at y1
                cases y1
                rw [List.mem_singleton.mp cc.1] at z2 z6
                exact ⟨dx', fs', z2, z5, z6⟩
            · cases hh
          · cases hh
        · cases hh
      · exact q5.elim
    · cases ha
  · cases ha
end
/-! ### raise -/
def raiseM (x : Str) : M Fl := fun e => .ex x [] e
def raiseN (x : Str) (f : M (List D)) : M Fl := bnd f fun ds e => match ds with
  | [d] => .ex x [("number", d)] e
  | _ => .stuck
section
variable {X : Cx} {C : Ct} {st : Stmt} {e : Expr}
theorem s_raise {x : Str} (p : PS X st (fun _ σ H => C.W (.ref (He.ga C.K x)) none σ H)) : PS X st (tFS C (raiseM x)) := imS p fun Z σ H h => by
  obtain ⟨G, ι, en, k, h⟩ := h
  exact h G ι H σ none Up.refl k (.inl ⟨rfl, rfl⟩)
theorem s_raiseN {x : Str} {f : M (List D)} (O : OexC C.K (He.ga C.K x)) (hno : PySem.W.findIn C.K (.ref (He.ga C.K x)) "number" = some none) (p : PS X st (fun _ σ H => tMkO (He.ga C.K x) (spNumI C.K) [] (tFA C f) σ H fun cls d H' => C.W cls d σ H')) : PS X st (tFS C (raiseN x f)) := imS p fun Z σ H h => by
  obtain ⟨G, ι, en, k, h⟩ := h
  refine ⟨G, ι, en, k, PX.imp (PS'.bnd h) fun ds e1 G1 ι1 H1 u1 k1 q1 vs r => ?_⟩
  match ds, r, q1 with
  | [], r, q1 => exact q1.elim
  | [d], r, q1 =>
    obtain ⟨v, rfl, r1⟩ := r.one_of
    refine num_ok O hno (Q := fun cls d H' => C.W cls d σ H') fun dd nd => ?_
    refine q1 G1 ι1 _ σ (some dd) Up.refl (k1.temp nd) (.inr ⟨(fun z => by cases z), dd, _, rfl, upd_same, fun f x hx => ?_⟩)
    rw [List.lookup_cons] at hx ⊢
    split at hx
    · cases hx
      exact ⟨v, rfl, r1⟩
    · cases hx
  | x :: y :: t, r, q1 => exact q1.elim
/-! ### try -/
def tryM (x : Str) (body suite : M Fl) : M Fl := fun e => match body e with
  | .ok a e' => .ok a e'
  | .ex y fs e' => if y = x ∧ fs = [] then suite e' else .stuck
  | .stuck => .stuck
/-- except x: .. -/
theorem s_try {x : Str} {fb fs : M Fl} (te : PySem.W.exmOne C.K (.ref (He.ga C.K x)) (.ref (He.ga C.K x)) = some true) (p : PS X st (fun Z σ H => tFS ⟨C.K, C.T, wOnly C.K (.ref (He.ga C.K x)) (fun _ _ _ => tFS C fs) C.W Z⟩ fb Z σ H)) : PS X st (tFS C (tryM x fb fs)) := imS p fun Z σ H h => by
  obtain ⟨G, ι, en, k, h⟩ := h
  refine ⟨G, ι, en, k, ?_⟩
  unfold tryM at h
  cases q : fb en with
  | ok a e' =>
    rw [q] at h
    cases a <;> exact h
  | ex y xs e' =>
    rw [q] at h
    dsimp only at h
    split at h
    · rename_i c
      obtain ⟨rfl, rfl⟩ := c
      intro G1 ι1 H1 σ1 dd u1 k1 z
      exact ⟨true, te, fun _ a na => ⟨G1, ι1, e', k1, PS'.up h u1⟩, fun z => by cases z⟩
    · exact h.elim
  | stuck =>
    rw [q] at h
    exact h
end
/-! ### _law_kind(lambda: ..) -/
theorem plain_all : ∀ x ∈ plainX, x ∈ allX := by decide
theorem num_all : ∀ x ∈ numX, x ∈ allX := by decide
def kindD (x : Str) (fs : List (Str × D)) : Option D :=
  if x ∈ plainX then (if fs.isEmpty then some (.str x) else none)
  else if x ∈ numX then (fs.lookup ("number" : Str)).map fun d => .tup [.str x, d]
  else if x = "BadRow" then match fs.lookup ("row" : Str), fs.lookup ("why" : Str) with
    | some a, some b => some (.tup [.str x, a, b])
    | _, _ => none
  else none
def kindM (f : M D) : M D := fun e => match f e with
  | .ok d e' => .ok d e'
  | .ex x fs e' => match kindD x fs with
    | some d => .ok d e'
    | none => .stuck
  | .stuck => .stuck
theorem Hs.ext {K : PySem.W.Frag} {G H H1 : Hp} {ι : List Addr} {h : List Ob} (s : Hs K G ι H h) (e : LamX.ExtN H H1) : Hs K G ι H1 h := by
  refine ⟨fun a o q => e a o (s.s _ _ q) fun ps z => s.nt a ps (by rw [q, z]), s.nd, s.len, s.g, s.nt, fun k a o hk ho => ?_⟩
  have ob := s.ob k a o hk ho
  obtain ⟨x, h1, h2, _⟩ := ob.obj
  exact ob.up Up.refl ((e a x h1 h2).trans h1.symm)
theorem Hs.keep {K : PySem.W.Frag} {G H H1 : Hp} {ι : List Addr} {h : List Ob} (s : Hs K G ι H h) (e : Same H H1) : Hs K G ι H1 h := s.ext fun b o q _ => e b o q
theorem v_kind {X : Cx} {C : Ct} {e : Expr} {f : M D} (p : PE X e (LamX.tLam C.T (TKind C.K) fun E => tF ⟨C.K, C.T, fun c d _ H => E c d H⟩ f)) : PE X e (tF C (kindM f)) := imE p fun σ H Q h => by
  obtain ⟨G, ι, en, k, h⟩ := h
  refine ⟨k.tb, fun H1 e1 t1 => ⟨G, ι, en, ⟨k.hs.ext e1, k.sl, t1⟩, ?_⟩⟩
  unfold kindM at h
  cases q : f en with
  | ok d e' =>
    rw [q] at h
    exact h
  | ex x fs e' =>
    rw [q] at h
    dsimp only at h
    split at h
    · rename_i d hd
      intro G2 ι2 H2 dd u2 k2 z
      have fin : ∀ H', Same H2 H' → Ok C.K C.T G2 ι2 H' σ e' := fun H' s => ⟨k2.hs.keep s, k2.sl, k2.tb.ext s⟩
      have tup : ∀ {p : Addr} {H' : Hp} {vs : List V} {ds : List D}, H2 p = none → Same H2 H' → H' p = some (.tup vs) → RDs C.K G2 ι2 ds vs → d = .tup ds → Q (.ref p) H' := fun {p H' vs ds} n s hp r ed => by
        subst ed
        have n2 := k2.hs.gnone n
        exact h _ _ _ (u2.trans (up_new n2)) ((fin H' s).frz n2 (k2.hs.not_mem n) hp) _ (.tup' (SqT.of upd_same) (r.up (up_new n2)))
      unfold kindD at hd
      split at hd
      · rename_i hx
        split at hd
        · rename_i he
          cases hd
          refine ⟨x, ?_, rfl, .inl ⟨hx, ?_, fun H' s => h _ _ _ u2 (fin H' s) _ (.str x)⟩⟩
          · exact plain_all x hx
          · rcases z with z | ⟨z1, _⟩
            · exact z.2
            · exact absurd (List.isEmpty_iff.mp he) z1
        · cases hd
      · split at hd
        · rename_i hx
          obtain ⟨y, hy, rfl⟩ := Option.map_eq_some_iff.mp hd
          rcases z with z | ⟨z1, d2, gs, z2, z3, z4⟩
          · rw [z.1] at hy
            cases hy
          · obtain ⟨v, b1, b2⟩ := z4 _ _ hy
            exact ⟨x, num_all x hx, rfl, .inr (.inl ⟨hx, d2, gs, v, z2, z3, b1, fun p H' n s hp => tup n s hp (.cons (.str x) (.one b2)) rfl⟩)⟩
        · split at hd
          · rename_i hx
            subst hx
            split at hd
            · rename_i a b ha hb
              cases hd
              rcases z with z | ⟨z1, d2, gs, z2, z3, z4⟩
              · rw [z.1] at ha
                cases ha
              · obtain ⟨v, b1, b2⟩ := z4 _ _ ha
                obtain ⟨w, c1, c2⟩ := z4 _ _ hb
                exact ⟨"BadRow", by decide, rfl, .inr (.inr ⟨rfl, d2, gs, v, w, z2, z3, b1, c1, fun p H' n s hp => tup n s hp (.cons (.str _) (.cons b2 (.one c2))) rfl⟩)⟩
            · cases hd
          · cases hd
    · exact h.elim
  | stuck =>
    rw [q] at h
    exact h.elim
end Fv


set_option Elab.async false
set_option linter.all false
set_option maxRecDepth 100000
set_option maxHeartbeats 4000000
set_option autoImplicit false
namespace Fv
open PySem PySem.Spec PyProof.Rows L2 Bm
section
variable {X : Cx} {C : Ct} {st : Stmt} {e : Expr}
theorem s_augI {r : TIp} {g : List Ob → D → D → Option D} {fo fi f : M D} (s : Op2 C.K r g) (p : PS X st (tAugS (tF C fo) (tF C fi) (tF C f) (rIxL C.K) r rSetL)) : PS X st (tFS C (augI g fo fi f)) := imS p fun Z σ H h => by
  obtain ⟨G, ι, en, k, h⟩ := h
  refine ⟨G, ι, en, k, PX.imp (PS'.bnd h) fun o e1 G1 ι1 H1 u1 k1 q1 uo ro => ⟨G1, ι1, e1, k1, PX.imp (PS'.bnd q1) fun i e2 G2 ι2 H2 u2 k2 q2 ui ri => ?_⟩⟩
  obtain ⟨x, hx, q3⟩ := (PS'.bnd (σ := σ) q2).lft
  split at hx
  · rename_i xs hxs
    split at hx
    · rename_i j
      have ro2 := ro.up u2
      obtain ⟨a, vs, rfl, h1, h2⟩ := lst_rd k2.hs ro2 hxs
      obtain ⟨w, hw, rw⟩ := h2.atI hx
      cases ri
      refine ⟨a, vs, j, w, rfl, rfl, SqL.of h1, hw, G2, ι2, e2, k2, PX.imp (PS'.bnd (q3.now k2)) fun y e3 G3 ι3 H3 u3 k3 q4 uy ry => ?_⟩
      obtain ⟨z, hz, q5⟩ := (PS'.bnd (σ := σ) q4).lft
      refine s G3 ι3 H3 e3.h x y z w uy _ k3.hs (rw.up u3) ry hz fun G' H' t g1 s1 hs rt => ?_
      have k4 := k3.grow g1 s1 hs
      have up4 : Up G3 ι3 G' ι3 := ⟨g1, List.prefix_refl _⟩
      have q6 : PS' C Z G' ι3 (match setItem e3.h o (.int j) z with
        | some h' => .ok .nx ⟨e3.ρ, h'⟩
        | none => .stuck) := q5 G' ι3 H' up4 k4
      split at q6
      · rename_i h' hh
        exact setL_ok k4 ((ro2.up u3).up up4) (.int j) rt hh fun H' k' => q6 G' ι3 H' σ Up.refl k'
      · exact q6.elim
    · cases hx
  · cases hx
end
/-! ### dicts -/
def keyD : D → Option Key
  | .int i => some (.inl i)
  | .str x => some (.inr x)
  | _ => none
theorem key_rd {K : PySem.W.Frag} {G : Hp} {ι : List Addr} {d : D} {v : V} {k : Key} (r : RD K G ι d v) (e : keyD d = some k) : v = kV k := by
  cases r with
  | int i => cases e; rfl
  | str x => cases e; rfl
  | _ => cases e
def valD (k : Key) : List Key → List D → Option D
  | j :: ks, d :: ds => if j = k then some d else valD k ks ds
  | _, _ => none
def putD (k : Key) (x : D) : List Key → List D → List Key × List D
  | j :: ks, d :: ds => if j = k then (j :: ks, x :: ds) else ((j :: (putD k x ks ds).1), (d :: (putD k x ks ds).2))
  | ks, ds => (ks ++ [k], ds ++ [x])
def dicOf (h : List Ob) : D → Option (List Key × List D)
  | .dic ks ds => some (ks, ds)
  | .ref k => match h[k]? with
    | some (.dic ks ds) => some (ks, ds)
    | _ => none
  | _ => none
section
variable {K : PySem.W.Frag} {G H : Hp} {ι : List Addr} {h : List Ob}
theorem dic_rd {d : D} {v : V} {ks : List Key} {ds : List D} (s : Hs K G ι H h) (r : RD K G ι d v) (e : dicOf h d = some (ks, ds)) : ∃ a kvs, v = .ref a ∧ H a = some (.dK kvs) ∧ RK K G ι ks ds kvs := by
  cases r with
  | dic hh hk l q =>
    cases e
    refine ⟨_, _, rfl, s.s _ _ hh, hk, by rw [List.length_map]; exact l, fun i d v a b => ?_⟩
    rw [List.getElem?_map] at b
    obtain ⟨kv, b1, rfl⟩ := Option.map_eq_some_iff.mp b
    exact q i d kv a b1
  | @ref k a hk =>
    have e : (match h[k]? with
      | some (.dic ks ds) => some (ks, ds)
      | _ => none) = some (ks, ds) := e
    split at e
    · rename_i ks' ds' hx
      cases e
      obtain ⟨kvs, h1, h2⟩ := s.cell hk hx
      exact ⟨a, kvs, rfl, h1, h2⟩
    · cases e
  | _ => cases e
theorem RK.cases {ks : List Key} {ds : List D} {kvs : List (Key × V)} (r : RK K G ι ks ds kvs) : (ks = [] ∧ ds = [] ∧ kvs = []) ∨ ∃ k ks' d ds' v kvs', ks = k :: ks' ∧ ds = d :: ds' ∧ kvs = (k, v) :: kvs' ∧ RD K G ι d v ∧ RK K G ι ks' ds' kvs' := by
  obtain ⟨r1, r2⟩ := r
  cases kvs with
  | nil =>
    left
    refine ⟨r1.symm, ?_, rfl⟩
    cases ds with
    | nil => rfl
    | cons d ds => cases r2.1
  | cons kv kvs =>
    right
    obtain ⟨k, v⟩ := kv
    cases ds with
    | nil => cases r2.1
    | cons d ds =>
      obtain ⟨w, vs, b1, b2, b3⟩ := r2.inv_cons
      injection b1 with b4 b5
      subst b5
      have b4 : v = w := b4
      subst b4
      exact ⟨k, kvs.map (·.1), d, ds, v, kvs, by rw [← r1]; rfl, rfl, rfl, b2, rfl, b3⟩
theorem RK.val {ks : List Key} {ds : List D} {kvs : List (Key × V)} (r : RK K G ι ks ds kvs) (k : Key) : (valD k ks ds = none ∧ valV kvs k = none) ∨ ∃ d v, valD k ks ds = some d ∧ valV kvs k = some v ∧ RD K G ι d v := by
  induction kvs generalizing ks ds with
  | nil =>
    rcases r.cases with ⟨rfl, rfl, _⟩ | ⟨_, _, _, _, _, _, _, _, z, _⟩
    · exact .inl ⟨by unfold valD; rfl, rfl⟩
    · cases z
  | cons kv kvs ih =>
    rcases r.cases with ⟨_, _, z⟩ | ⟨j, ks', d, ds', v, kvs', rfl, rfl, z, r1, r2⟩
    · cases z
    · cases z
      by_cases e : j = k
      · exact .inr ⟨d, v, by unfold valD; rw [if_pos e], valV_pos e, r1⟩
      · rcases ih r2 with ⟨a1, a2⟩ | ⟨d', v', a1, a2, a3⟩
        · exact .inl ⟨by unfold valD; rw [if_neg e]; exact a1, by rw [valV_neg e]; exact a2⟩
        · exact .inr ⟨d', v', by unfold valD; rw [if_neg e]; exact a1, by rw [valV_neg e]; exact a2, a3⟩
theorem putK_cons {κ : Type} [DecidableEq κ] {p : κ × V} {r : List (κ × V)} {k : κ} {v : V} (nd : (r.map (·.1)).contains p.1 = false ∨ True) (e : ¬ p.1 = k) : putK (p :: r) k v = p :: putK r k v := by
  unfold putK
  rw [List.any_cons, decide_eq_false e, Bool.false_or]
  by_cases a : (r.any fun kv => decide (kv.1 = k)) = true
  · rw [if_pos a, if_pos a, List.map_cons, if_neg e]
  · rw [if_neg a, if_neg a, List.cons_append]
theorem RK.put {ks : List Key} {ds : List D} {kvs : List (Key × V)} (r : RK K G ι ks ds kvs) (nd : ks.Nodup) {k : Key} {x : D} {v : V} (rx : RD K G ι x v) : RK K G ι (putD k x ks ds).1 (putD k x ks ds).2 (putK kvs k v) := by
  induction kvs generalizing ks ds with
  | nil =>
    rcases r.cases with ⟨rfl, rfl, _⟩ | ⟨_, _, _, _, _, _, _, _, z, _⟩
    · refine ⟨?_, ?_⟩
      · unfold putD
        rfl
      · unfold putD
        exact .one rx
    · cases z
  | cons kv kvs ih =>
    rcases r.cases with ⟨_, _, z⟩ | ⟨j, ks', d, ds', w, kvs', rfl, rfl, z, r1, r2⟩
    · cases z
    · cases z
      rw [List.nodup_cons] at nd
      by_cases e : j = k
      · subst e
        have hp : putK ((j, w) :: kvs) j v = (j, v) :: kvs := by
          unfold putK
          rw [List.any_cons, decide_eq_true rfl, Bool.true_or, if_pos rfl, List.map_cons, if_pos rfl]
          congr 1
          have : ∀ l : List (Key × V), j ∉ l.map (·.1) → l.map (fun kv => if kv.1 = j then (kv.1, v) else kv) = l := fun l => by
            induction l with
            | nil => intro _; rfl
            | cons p l ihl =>
              intro h
              rw [List.map_cons, List.mem_cons] at h
              rw [List.map_cons, ihl (fun z => h (.inr z)), if_neg (fun z => h (.inl z.symm))]
          exact this kvs (by rw [r2.1]; exact nd.1)
        rw [hp]
        have hd : putD j x (j :: ks') (d :: ds') = (j :: ks', x :: ds') := by
          conv => lhs; unfold putD
          rw [if_pos rfl]
        rw [hd]
        exact ⟨by rw [List.map_cons, r2.1], .cons rx r2.2⟩
      · rw [putK_cons (.inr trivial) e]
        have hd : putD k x (j :: ks') (d :: ds') = ((j :: (putD k x ks' ds').1), (d :: (putD k x ks' ds').2)) := by
          conv => lhs; unfold putD
          rw [if_neg e]
        rw [hd]
        obtain ⟨a1, a2⟩ := ih r2 nd.2
        exact ⟨by rw [List.map_cons, a1], .cons r1 a2⟩
theorem RK.len {ks : List Key} {ds : List D} {kvs : List (Key × V)} (r : RK K G ι ks ds kvs) : kvs.length = ks.length := by
  rw [← r.1, List.length_map]
end
/-- d[k] -/
def dgetD (h : List Ob) (x y : D) : Option D := match dicOf h x, keyD y with
  | some (ks, ds), some k => valD k ks ds
  | _, _ => none
def dinF (h : List Ob) (x y : D) : Option Bool := match dicOf h x with
  | some (ks, ds) => match y with
    | .non => some false
    | y => match keyD y with
      | some k => some (valD k ks ds).isSome
      | none => none
  | none => none
section
variable {X : Cx} {C : Ct} {st : Stmt} {e : Expr}
theorem v_dget {fd fy : M D} (p : PE X e (tDGet (tF C fd) (tF C fy))) : PE X e (tF C (e2 dgetD fd fy)) := imE p fun σ H Q h => by
  obtain ⟨G, ι, en, k, h⟩ := h
  refine ⟨G, ι, en, k, PX.imp h.bnd fun x e1 G1 ι1 H1 u1 k1 q1 u ru => ⟨G1, ι1, e1, k1, PX.imp q1.bnd fun y e2 G2 ι2 H2 u2 k2 q2 v rv => ?_⟩⟩
  obtain ⟨d, hd, q⟩ := q2.lft
  unfold dgetD at hd
  split at hd
  · rename_i ks ds j hk hj
    obtain ⟨a, kvs, rfl, h1, h2⟩ := dic_rd k2.hs (ru.up u2) hk
    obtain rfl := key_rd rv hj
    rcases h2.val j with ⟨z, _⟩ | ⟨d', w, a1, a2, a3⟩
    · rw [hd] at z
      cases z
    · rw [hd] at a1
      cases a1
      exact ⟨a, w, rfl, by rw [← a2]; exact DGet.k h1, q.now k2 w a3⟩
  · cases hd
/-- y in d -/
theorem v_din {fd fy : M D} (p : PE X e (tDInN (tF C fy) (tF C fd))) : PE X e (tF C (e2 (fun h y x => (dinF h x y).map .bl) fy fd)) := imE p fun σ H Q h => by
  obtain ⟨G, ι, en, k, h⟩ := h
  refine ⟨G, ι, en, k, PX.imp h.bnd fun y e1 G1 ι1 H1 u1 k1 q1 v rv => ⟨G1, ι1, e1, k1, PX.imp q1.bnd fun x e2 G2 ι2 H2 u2 k2 q2 u ru => ?_⟩⟩
  obtain ⟨d, hd, q⟩ := q2.lft
  obtain ⟨b, hb, rfl⟩ := Option.map_eq_some_iff.mp hd
  unfold dinF at hb
  split at hb
  · rename_i ks ds hk
    obtain ⟨a, kvs, rfl, h1, h2⟩ := dic_rd k2.hs ru hk
    have go : ∀ j, keyD y = some j → some (valD j ks ds).isSome = some b → ∃ a o, V.ref a = .ref a ∧ DGet H2 a v o ∧ Q (.bl o.isSome) H2 := fun j hj eb => by
      obtain rfl := key_rd (rv.up u2) hj
      refine ⟨a, _, rfl, DGet.k h1, ?_⟩
      have hq : (valV kvs j).isSome = b := by
        rw [← Option.some.inj eb]
        rcases h2.val j with ⟨z1, z2⟩ | ⟨d', w, a1, a2, a3⟩
        · rw [z1, z2] <;> rfl
        · rw [a1, a2] <;> rfl
      rw [hq]
      exact q.now k2 _ (.bl b)
    split at hb
    · cases hb
      cases rv
      exact .inr ⟨a, kvs, rfl, rfl, .inl h1, q.now k2 _ (.bl _)⟩
    · split at hb
      · rename_i j hj
        obtain ⟨a', o, _, z1, z2⟩ := go j hj hb
        obtain rfl := key_rd (rv.up u2) hj
        refine .inl ⟨a, _, rfl, DGet.k h1, ?_⟩
        have hq : (valV kvs j).isSome = b := by
          rw [← Option.some.inj hb]
          rcases h2.val j with ⟨z1, z2⟩ | ⟨d', w, a1, a2, a3⟩
          · rw [z1, z2] <;> rfl
          · rw [a1, a2] <;> rfl
        rw [hq]
        exact q.now k2 _ (.bl b)
      · cases hb
  · cases hb
theorem v_dnotin {fd fy : M D} (p : PE X e (tDNotInN (tF C fy) (tF C fd))) : PE X e (tF C (e2 (fun h y x => (dinF h x y).map fun b => .bl (!b)) fy fd)) := imE p fun σ H Q h => by
  obtain ⟨G, ι, en, k, h⟩ := h
  refine ⟨G, ι, en, k, PX.imp h.bnd fun y e1 G1 ι1 H1 u1 k1 q1 v rv => ⟨G1, ι1, e1, k1, PX.imp q1.bnd fun x e2 G2 ι2 H2 u2 k2 q2 u ru => ?_⟩⟩
  obtain ⟨d, hd, q⟩ := q2.lft
  obtain ⟨b, hb, hd⟩ := Option.map_eq_some_iff.mp hd
  subst hd
  unfold dinF at hb
  split at hb
  · rename_i ks ds hk
    obtain ⟨a, kvs, rfl, h1, h2⟩ := dic_rd k2.hs ru hk
    split at hb
    · have hb := Option.some.inj hb
      subst hb
      cases rv
      exact .inr ⟨a, kvs, rfl, rfl, .inl h1, q.now k2 _ (.bl _)⟩
    · split at hb
      · rename_i j hj
        obtain rfl := key_rd (rv.up u2) hj
        refine .inl ⟨a, _, rfl, DGet.k h1, ?_⟩
        have hq : (valV kvs j).isSome = b := by
          rw [← Option.some.inj hb]
          rcases h2.val j with ⟨z1, z2⟩ | ⟨d', w, a1, a2, a3⟩
          · rw [z1, z2] <;> rfl
          · rw [a1, a2] <;> rfl
        rw [hq]
        exact q.now k2 _ (.bl (!b))
      · cases hb
  · cases hb
/-- d.get(k, x) -/
def dget2M (fd fy fx : M D) : M D := bnd fd fun x => bnd (lft fun h => dicOf h x) fun _ => bnd fy fun y => bnd fx fun z => lft fun h => match dicOf h x, keyD y with
  | some (ks, ds), some k => some ((valD k ks ds).getD z)
  | _, _ => none
theorem v_dget2 {fd fy fx : M D} (p : PE X e (tDGet2 (tF C fd) (tF C fy) (tF C fx))) : PE X e (tF C (dget2M fd fy fx)) := imE p fun σ H Q h => by
  obtain ⟨G, ι, en, k, h⟩ := h
  refine ⟨G, ι, en, k, PX.imp h.bnd fun x e1 G1 ι1 H1 u1 k1 q1 u ru => ?_⟩
  obtain ⟨⟨ks0, ds0⟩, h0, q2⟩ := (PX.bnd q1).lft
  obtain ⟨a, kvs0, rfl, h1, _⟩ := dic_rd k1.hs ru h0
  refine ⟨a, rfl, .inl ⟨kvs0, .inl h1⟩, G1, ι1, e1, k1, PX.imp (PX.bnd (q2.now k1)) fun y e2 G2 ι2 H2 u2 k2 q3 v rv => ⟨G2, ι2, e2, k2, PX.imp q3.bnd fun z e3 G3 ι3 H3 u3 k3 q4 w rw => ?_⟩⟩
  obtain ⟨d, hd, q⟩ := q4.lft
  split at hd
  · rename_i ks ds j hk hj
    obtain ⟨a', kvs, ea, h3, h4⟩ := dic_rd k3.hs ((ru.up u2).up u3) hk
    cases ea
    obtain rfl := key_rd (rv.up u3) hj
    refine ⟨_, DGet.k h3, ?_⟩
    have hd := Option.some.inj hd
    subst hd
    rcases h4.val j with ⟨z1, z2⟩ | ⟨d', t, a1, a2, a3⟩
    · rw [z1] at q
      rw [z2]
      exact q.now k3 _ rw
    · rw [a1] at q
      rw [a2]
      exact q.now k3 _ a3
  · cases hd
/-- d[k] = v -/
def dputE (h : List Ob) (x y v : D) : Option (List Ob) := match x, keyD y with
  | .ref j, some k => match h[j]? with
    | some (.dic ks ds) => if ks.length < 1000000 ∧ ks.Nodup then some (h.set j (.dic (putD k v ks ds).1 (putD k v ks ds).2)) else none
    | _ => none
  | _, _ => none
def dputM (fd fy fv : M D) : M Fl := bnd fv fun v => bnd fd fun x => bnd fy fun y e => match dputE e.h x y v with
  | some h' => .ok .nx ⟨e.ρ, h'⟩
  | none => .stuck
theorem s_dput {fd fy fv : M D} (p : PS X st (sDPut (tF C fd) (tF C fy) (tF C fv))) : PS X st (tFS C (dputM fd fy fv)) := imS p fun Z σ H h => by
  obtain ⟨G, ι, en, k, h⟩ := h
  refine ⟨G, ι, en, k, PX.imp (PS'.bnd h) fun v e1 G1 ι1 H1 u1 k1 q1 uv rv => ⟨G1, ι1, e1, k1, PX.imp (PS'.bnd q1) fun x e2 G2 ι2 H2 u2 k2 q2 ux rx => ⟨G2, ι2, e2, k2, PX.imp (PS'.bnd q2) fun y e3 G3 ι3 H3 u3 k3 q3 uy ry => ?_⟩⟩⟩
  split at q3
  · rename_i h' hh
    unfold dputE at hh
    split at hh
    · rename_i j kk hk
      obtain rfl := key_rd ry hk
      have rx3 := rx.up u3
      cases rx3 with
      | ref hj =>
        split at hh
        · rename_i ks ds hx
          split at hh
          · rename_i c
            cases hh
            obtain ⟨kvs, h1, h2⟩ := k3.hs.cell hj hx
            refine ⟨_, _, rfl, DPut.k h1 (by rw [h2.len]; exact lim6 c.1), ?_⟩
            exact q3 G3 ι3 _ σ Up.refl (k3.mut hj hx ⟨_, upd_same, h2.put c.2 ((rv.up u2).up u3)⟩)
          · cases hh
        · cases hh
    · cases hh
  · exact q3.elim
/-- {} -/
theorem o_dnew (p : PE X e tDNewK) : PE X e (tFO C (ret (.dic [] []))) := imE p fun σ H Q h => by
  obtain ⟨G, ι, en, k, h⟩ := h
  exact fun p n => h G ι _ Up.refl (k.temp n) p (k.hs.gnone n) (k.hs.not_mem n) ⟨[], upd_same, rfl, .nil⟩
/-- {k: v, ..} -/
def pairsM : List (M D × M D) → M (List (D × D))
  | [] => ret []
  | (f, g) :: r => bnd f fun x => bnd g fun y => bnd (pairsM r) fun ps => ret ((x, y) :: ps)
def keysD : List (D × D) → Option (List Key)
  | [] => some []
  | p :: r => match keyD p.1, keysD r with
    | some k, some ks => some (k :: ks)
    | _, _ => none
def mergeD : List Key → List D → List Key × List D → List Key × List D
  | k :: ks, d :: ds, acc => mergeD ks ds (putD k d acc.1 acc.2)
  | _, _, acc => acc
def dispM (fps : List (M D × M D)) : M D := fun e => match pairsM fps ⟨e.ρ, e.h ++ [.dic [] []]⟩ with
  | .ok ps e' => match keysD ps, e'.h[e.h.length]? with
    | some ks, some (.dic [] []) => if ks.Nodup ∧ ks.length ≤ 15 then .ok (.ref e.h.length) ⟨e'.ρ, e'.h.set e.h.length (.dic ks (ps.map (·.2)))⟩ else .stuck
    | _, _ => .stuck
  | .ex x fs e' => .ex x fs e'
  | .stuck => .stuck
end
end Fv


set_option Elab.async false
set_option linter.all false
set_option maxRecDepth 100000
set_option maxHeartbeats 4000000
set_option autoImplicit false
namespace Fv
open PySem PySem.Spec PyProof.Rows L2 Bm
/-! ### {k: v, ..} -/
theorem mergeK_app : ∀ (more acc : List (Key × V)), ((acc ++ more).map (·.1)).Nodup → mergeK acc more = acc ++ more
  | [], acc, _ => by rw [List.append_nil]; rfl
  | p :: more, acc, nd => by
    have hn : putK acc p.1 p.2 = acc ++ [p] := by
      unfold putK
      have : (acc.any fun kv => decide (kv.1 = p.1)) = false := by
        rw [List.any_eq_false]
        intro kv hkv
        have : kv.1 ≠ p.1 := fun e => by
          rw [List.map_append, List.map_cons, List.nodup_append] at nd
          exact nd.2.2 kv.1 (List.mem_map.mpr ⟨kv, hkv, rfl⟩) p.1 List.mem_cons_self e
        simpa using this
      rw [this]
      rfl
    show mergeK (putK acc p.1 p.2) more = _
    rw [hn, mergeK_app more (acc ++ [p]) (by rw [List.append_assoc]; exact nd), List.append_assoc]
    rfl
section
variable {X : Cx} {C : Ct} {st : Stmt} {e : Expr}
def RP (K : PySem.W.Frag) (G : Hp) (ι : List Addr) (ps : List (D × D)) (qs : List (V × V)) : Prop := RDs K G ι (ps.map (·.1)) (qs.map (·.1)) ∧ RDs K G ι (ps.map (·.2)) (qs.map (·.2))
theorem imPairs {fps : List (M D × M D)} : ∀ (σ : L2.St) (H : Hp) (R : List (V × V) → Hp → Prop), (∃ G ι e, Ok C.K C.T G ι H σ e ∧ PX C G ι σ (pairsM fps e) fun ps _ G' ι' H' => ∀ qs, RP C.K G' ι' ps qs → R qs H') → tPairs (fps.map fun p => (tF C p.1, tF C p.2)) σ H R := by
  induction fps with
  | nil =>
    intro σ H R h
    obtain ⟨G, ι, en, k, h⟩ := h
    exact PX.now (a := ([] : List (D × D))) h k [] ⟨.nil, .nil⟩
  | cons p fps ih =>
    intro σ H R h
    obtain ⟨f, g⟩ := p
    obtain ⟨G, ι, en, k, h⟩ := h
    refine ⟨G, ι, en, k, PX.imp (PX.bnd h) fun x e1 G1 ι1 H1 u1 k1 q1 u ru => ⟨G1, ι1, e1, k1, PX.imp q1.bnd fun y e2 G2 ι2 H2 u2 k2 q2 v rv => ih σ H2 _ ⟨G2, ι2, e2, k2, PX.imp q2.bnd fun ps e3 G3 ι3 H3 u3 k3 q3 qs rq => ?_⟩⟩⟩
    exact PX.now (a := (x, y) :: ps) q3 k3 _ ⟨.cons ((ru.up u2).up u3) rq.1, .cons (rv.up u3) rq.2⟩
theorem keys_rd {K : PySem.W.Frag} {G : Hp} {ι : List Addr} : ∀ {ps : List (D × D)} {qs : List (V × V)} {ks : List Key}, RP K G ι ps qs → keysD ps = some ks → ∃ kvs : List (Key × V), qs = kvs.map (fun kv => (kV kv.1, kv.2)) ∧ RK K G ι ks (ps.map (·.2)) kvs := by
  intro ps
  induction ps with
  | nil =>
    intro qs ks r e
    unfold keysD at e
    cases e
    have : qs = [] := by
      have := r.1.1
      simpa using this
    subst this
    exact ⟨[], rfl, rfl, .nil⟩
  | cons p ps ih =>
    intro qs ks r e
    unfold keysD at e
    split at e
    · rename_i k ks' h1 h2
      cases e
      cases qs with
      | nil => cases r.1.1
      | cons q qs =>
        obtain ⟨a1, a2⟩ := r
        obtain ⟨v, vs, b1, b2, b3⟩ := a1.inv_cons
        obtain ⟨v', vs', c1, c2, c3⟩ := a2.inv_cons
        injection b1 with b4 b5
        injection c1 with c4 c5
        subst b5 c5
        obtain ⟨kvs, d1, d2, d3⟩ := ih ⟨b3, c3⟩ h2
        obtain ⟨q1, q2⟩ := q
        have b4 : q1 = v := b4
        have c4 : q2 = v' := c4
        subst b4 c4
        refine ⟨(k, q2) :: kvs, ?_, ?_, .cons c2 d3⟩
        · rw [List.map_cons, ← d1, key_rd b2 h1]
        · rw [List.map_cons, d2]
    · cases e
theorem imDisp {fps : List (M D × M D)} (σ : L2.St) (H : Hp) (Q : VK) (h : tF C (dispM fps) σ H Q) : tDisp (fps.map fun p => (tF C p.1, tF C p.2)) σ H Q := by
  obtain ⟨G, ι, en, k, h⟩ := h
  intro p np
  have mp := k.hs.not_mem np
  have gp := k.hs.gnone np
  have kt : Ok C.K C.T G ι (upd H p (.dK [])) σ en := k.temp np
  have k0 := kt.pub gp mp (x := .dic [] []) ⟨[], upd_same, rfl, .nil⟩
  have hat : (ι ++ [p])[en.h.length]? = some p := by
    rw [← k.hs.len, List.getElem?_append_right (Nat.le_refl _), Nat.sub_self]
    rfl
  refine imPairs σ _ _ ⟨G, ι ++ [p], ⟨en.ρ, en.h ++ [.dic [] []]⟩, k0, ?_⟩
  unfold dispM at h
  cases q : pairsM fps ⟨en.ρ, en.h ++ [.dic [] []]⟩ with
  | ok ps e' =>
    rw [q] at h
    intro G1 ι1 H1 u1 k1 qs rq
    have hp := pre_get u1.i hat
    dsimp only at h
    split at h
    · rename_i ks hks hc
      split at h
      · rename_i c
        obtain ⟨kvs0, h1, h2, h3⟩ := k1.hs.cell hp hc
        have e0 : kvs0 = [] := by simpa using h2
        subst e0
        obtain ⟨kvs, d1, d2⟩ := keys_rd rq hks
        refine ⟨h1, kvs, d1, by rw [d2.len]; exact c.2, ?_⟩
        rw [mergeK_app kvs [] (by rw [List.nil_append, d2.1]; exact c.1), List.nil_append]
        exact h G1 ι1 _ (up_snoc.trans u1) (k1.mut hp hc ⟨kvs, upd_same, d2⟩) _ (.ref hp)
      · exact h.elim
    · exact h.elim
  | ex x fs e' =>
    rw [q] at h
    exact fun G1 ι1 H1 dd u1 k1 z => h G1 ι1 H1 dd (up_snoc.trans u1) k1 z
  | stuck =>
    rw [q] at h
    exact h
theorem v_disp {fps : List (M D × M D)} (p : PE X e (tDisp (fps.map fun p => (tF C p.1, tF C p.2)))) : PE X e (tF C (dispM fps)) := imE p imDisp
end
/-! ### methods of own classes -/
def tMethS (C : Addr) (m : Str) (sp : Sp) (dvs : List V) (E : L2.St → XK) (ta : TE) (t : TA) : TE := fun σ H Q => ta σ H fun x H1 => ∃ a dx fs, x = .ref a ∧ H1 a = some (.ins C dx fs) ∧ fs.lookup m = none ∧ t σ H1 fun vs H2 => sp (x :: (vs ++ dvs)) H2 Q (E σ)
structure Me (P : Program) (w : World) (K : PySem.W.Frag) (mg : Str → Option Value) (base : Heap) (CX : CXT) (k : Nat) (c : Str) (m : Str) (sp : Sp) (dvs : List V) : Prop where
  ex : ∃ (f : Addr) (fd : FuncData) (ps : List Str) (ds : List Value), Cls K (He.ga K c) ∧ Meth K (He.ga K c) m f ∧ FnOk P w K mg base CX k f fd ps sp ∧ L2.Binds K fd ps ds ∧ Vals dvs ds
section
variable {X : Cx} {CX : CXT} {k j : Nat} {c m : Str} {sp : Sp} {dvs : List V} {pos apos : Pos} {e o : Expr} {es : List Expr} {ta : TE} {t : TA} {E : L2.St → XK}
theorem pe_meS {pl : Sem Bool} (d : Me X.prog X.w X.K X.mg X.base CX k c m sp dvs) (hr : Room j X.A) (hk : k ≤ j) (hx : ∀ σ, PassesAt CX X σ (E σ)) (ho : PE X o ta) (ha : PA X (e :: es) t)
    (hst : starEach (e :: es) X.env = (false, eval e X.env) :: starEach es X.env := by rfl) (hpl : (backTo pos (starEach es X.env)).any (·.1) = false := by rfl)
    (ht : eval (.Call (.Attribute o m apos) (e :: es) [] pos) X.env = (do
      let ov ← eval o X.env
      standAt apos.atName
      let (f, first) ← holding [ov] (getMethod ov m pl)
      callWith pos f first (backTo pos (starEach (e :: es) X.env)) (backToKw pos (keywordEach [] X.env))) := by rfl) :
    PE X (.Call (.Attribute o m apos) (e :: es) [] pos) (tMethS (He.ga X.K c) m sp dvs E ta t) := by
  refine ⟨fun pins s σ H Q I h => ?_⟩
  obtain ⟨f, fd, ps, ds, hc, hm, F, b, d⟩ := d.ex
  refine PySem.W.methodCall_KW (pl := pl) (thn (ho.run pins s σ H _ I h) fun u s1 ⟨x, H1, I1, rx, a, dx, fs, ex, ea, l, q⟩ => ?_) ht
  subst ex
  obtain rfl : u = Value.ref a := rx
  refine getmeth_ok I1 ea hc hm l ?_
  refine PySem.W.callWith_K (first := [.ref a]) (h₀ := X.base) I.ok.mod.kin hm.kp (thn (ha.run pos pins s1 σ H1 _ I1 q) fun us s2 ⟨vs, H2, I2, r, q2⟩ => ⟨I2.kIn, ?_⟩) hst hpl
  exact run_fnSD (us := .ref a :: us) (vs := .ref a :: vs) F (hr.mono hk) b d (hx σ) I2 (.cons rfl r) q2
theorem pe_meS0 {pl : Sem Bool} (d : Me X.prog X.w X.K X.mg X.base CX k c m sp dvs) (hr : Room j X.A) (hk : k ≤ j) (hx : ∀ σ, PassesAt CX X σ (E σ)) (ho : PE X o ta)
    (ht : eval (.Call (.Attribute o m apos) [] [] pos) X.env = (do
      let ov ← eval o X.env
      standAt apos.atName
      let (f, first) ← holding [ov] (getMethod ov m pl)
      callWith pos f first (backTo pos (starEach [] X.env)) (backToKw pos (keywordEach [] X.env))) := by rfl) :
    PE X (.Call (.Attribute o m apos) [] [] pos) (tMethS (He.ga X.K c) m sp dvs E ta tNil) := by
  refine ⟨fun pins s σ H Q I h => ?_⟩
  obtain ⟨f, fd, ps, ds, hc, hm, F, b, d⟩ := d.ex
  refine PySem.W.methodCall_KW (pl := pl) (thn (ho.run pins s σ H _ I h) fun u s1 ⟨x, H1, I1, rx, a, dx, fs, ex, ea, l, q⟩ => ?_) ht
  subst ex
  obtain rfl : u = Value.ref a := rx
  refine getmeth_ok I1 ea hc hm l ?_
  exact PySem.W.callWith_K0 (first := [.ref a]) I1.kIn hm.kp (run_fnSD (us := [.ref a]) (vs := [.ref a]) F (hr.mono hk) b d (hx σ) I1 (.cons rfl .nil) q)
/-- where the class is one of some -/
def tMethC (K : PySem.W.Frag) (cs : List Str) (m : Str) (sp : Str → Sp) (dvs : List V) (E : L2.St → XK) (ta : TE) (t : TA) : TE := fun σ H Q => ta σ H fun x H1 => ∃ a c dx fs, x = .ref a ∧ c ∈ cs ∧ H1 a = some (.ins (He.ga K c) dx fs) ∧ fs.lookup m = none ∧ t σ H1 fun vs H2 => sp c (x :: (vs ++ dvs)) H2 Q (E σ)
theorem pe_meC {pl : Sem Bool} {cs : List Str} {spc : Str → Sp} (d : ∀ c ∈ cs, Me X.prog X.w X.K X.mg X.base CX k c m (spc c) dvs) (hr : Room j X.A) (hk : k ≤ j) (hx : ∀ σ, PassesAt CX X σ (E σ)) (ho : PE X o ta) (ha : PA X (e :: es) t)
    (hst : starEach (e :: es) X.env = (false, eval e X.env) :: starEach es X.env := by rfl) (hpl : (backTo pos (starEach es X.env)).any (·.1) = false := by rfl)
    (ht : eval (.Call (.Attribute o m apos) (e :: es) [] pos) X.env = (do
      let ov ← eval o X.env
      standAt apos.atName
      let (f, first) ← holding [ov] (getMethod ov m pl)
      callWith pos f first (backTo pos (starEach (e :: es) X.env)) (backToKw pos (keywordEach [] X.env))) := by rfl) :
    PE X (.Call (.Attribute o m apos) (e :: es) [] pos) (tMethC X.K cs m spc dvs E ta t) := by
  refine ⟨fun pins s σ H Q I h => ?_⟩
  refine PySem.W.methodCall_KW (pl := pl) (thn (ho.run pins s σ H _ I h) fun u s1 ⟨x, H1, I1, rx, a, c, dx, fs, ex, hcs, ea, l, q⟩ => ?_) ht
  obtain ⟨f, fd, ps, ds, hc, hm, F, b, d⟩ := (d c hcs).ex
  subst ex
  obtain rfl : u = Value.ref a := rx
  refine getmeth_ok I1 ea hc hm l ?_
  refine PySem.W.callWith_K (first := [.ref a]) (h₀ := X.base) I.ok.mod.kin hm.kp (thn (ha.run pos pins s1 σ H1 _ I1 q) fun us s2 ⟨vs, H2, I2, r, q2⟩ => ⟨I2.kIn, ?_⟩) hst hpl
  exact run_fnSD (us := .ref a :: us) (vs := .ref a :: vs) F (hr.mono hk) b d (hx σ) I2 (.cons rfl r) q2
theorem pe_meC0 {pl : Sem Bool} {cs : List Str} {spc : Str → Sp} (d : ∀ c ∈ cs, Me X.prog X.w X.K X.mg X.base CX k c m (spc c) dvs) (hr : Room j X.A) (hk : k ≤ j) (hx : ∀ σ, PassesAt CX X σ (E σ)) (ho : PE X o ta)
    (ht : eval (.Call (.Attribute o m apos) [] [] pos) X.env = (do
      let ov ← eval o X.env
      standAt apos.atName
      let (f, first) ← holding [ov] (getMethod ov m pl)
      callWith pos f first (backTo pos (starEach [] X.env)) (backToKw pos (keywordEach [] X.env))) := by rfl) :
    PE X (.Call (.Attribute o m apos) [] [] pos) (tMethC X.K cs m spc dvs E ta tNil) := by
  refine ⟨fun pins s σ H Q I h => ?_⟩
  refine PySem.W.methodCall_KW (pl := pl) (thn (ho.run pins s σ H _ I h) fun u s1 ⟨x, H1, I1, rx, a, c, dx, fs, ex, hcs, ea, l, q⟩ => ?_) ht
  obtain ⟨f, fd, ps, ds, hc, hm, F, b, d⟩ := (d c hcs).ex
  subst ex
  obtain rfl : u = Value.ref a := rx
  refine getmeth_ok I1 ea hc hm l ?_
  exact PySem.W.callWith_K0 (first := [.ref a]) I1.kIn hm.kp (run_fnSD (us := [.ref a]) (vs := [.ref a]) F (hr.mono hk) b d (hx σ) I1 (.cons rfl .nil) q)
end
/-- o.m(..): what the class of o does -/
def methM (cs : List Str) (m : Str) (Φ : Str → Fun) (dds : List D) (fo : M D) (fa : M (List D)) : M D := bnd fo fun x => bnd (lft fun h => match insOf h x with
    | some (c, fs) => if c ∈ cs ∧ fs.lookup m = none then some c else none
    | none => none) fun c => bnd fa fun ds e => match Φ c (x :: (ds ++ dds)) e.h with
  | .ok d h' => .ok d ⟨e.ρ, h'⟩
  | .ex x fs h' => .ex x fs ⟨e.ρ, h'⟩
  | .stuck => .stuck
section
variable {X : Cx} {C : Ct} {st : Stmt} {e : Expr}
theorem v_meth {n : Nat} {cs : List Str} {m : Str} {Φ : Str → Fun} {dds : List D} {dvs : List V} {fo : M D} {fa : M (List D)} (hd : ∀ G ι, RDs C.K G ι dds dvs) (hn : ∀ en ds e', fa en = .ok ds e' → (ds ++ dds).length + 1 = n)
    (p : PE X e (tMethC C.K cs m (fun c => spF C.K n (Φ c)) dvs (WE C.W) (tF C fo) (tFA C fa))) : PE X e (tF C (methM cs m Φ dds fo fa)) := imE p fun σ H Q h => by
  obtain ⟨G, ι, en, k, h⟩ := h
  refine ⟨G, ι, en, k, PX.imp h.bnd fun x e1 G1 ι1 H1 u1 k1 q1 v rx => ?_⟩
  obtain ⟨c, hc, q2⟩ := (PX.bnd q1).lft
  split at hc
  · rename_i c' fs hi
    split at hc
    · rename_i cc
      cases hc
      obtain ⟨a, dx, gs, rfl, h1, h2⟩ := ins_rd k1.hs rx hi
      refine ⟨a, _, dx, gs, rfl, cc.1, h1, h2.none cc.2, G1, ι1, e1, k1, ?_⟩
      have q3 := PX.bnd (q2.now k1)
      cases q : fa e1 with
      | ok ds e2 =>
        rw [q] at q3
        intro G2 ι2 H2 u2 k2 vs r
        have rr := RDs.cons (rx.up u2) (r.append (hd G2 ι2))
        exact ⟨by rw [rr.1, List.length_cons]; exact hn _ _ _ q, C.T, G2, ι2, e2.h, x :: (ds ++ dds), k2.tb, k2.hs, rr, PX.call k2 (q3 G2 ι2 H2 u2 k2)⟩
      | ex y fs e2 =>
        rw [q] at q3
        exact q3
      | stuck =>
        rw [q] at q3
        exact q3
    · cases hc
  · cases hc
theorem v_meth0 {n : Nat} {cs : List Str} {m : Str} {Φ : Str → Fun} {dds : List D} {dvs : List V} {fo : M D} (hd : ∀ G ι, RDs C.K G ι dds dvs) (hn : dds.length + 1 = n)
    (p : PE X e (tMethC C.K cs m (fun c => spF C.K n (Φ c)) dvs (WE C.W) (tF C fo) tNil)) : PE X e (tF C (methM cs m Φ dds fo nilM)) := v_meth (n := n) hd (fun en ds e' q => by cases q; exact hn) (imE p fun σ H Q h => by
  obtain ⟨G, ι, en, k, h⟩ := h
  refine ⟨G, ι, en, k, PX.imp h fun x e1 G1 ι1 H1 u1 k1 q1 v rx => ?_⟩
  obtain ⟨a, c, dx, fs, z1, z2, z3, z4, z5⟩ := q1 v rx
  refine ⟨a, c, dx, fs, z1, z2, z3, z4, ?_⟩
  obtain ⟨G2, ι2, e2, k2, q2⟩ := z5
  exact PX.now (a := ([] : List D)) q2 k2 [] .nil)
end
/-! ### C(..) -/
structure Mk' (P : Program) (w : World) (K : PySem.W.Frag) (mg : Str → Option Value) (base : Heap) (CX : CXT) (k : Nat) (c : Str) (sp : Sp) (dvs : List V) : Prop where
  ex : ∃ (f : Addr) (fd : FuncData) (ps : List Str) (ds : List Value), Mk K (He.ga K c) f ∧ FnOk P w K mg base CX k f fd ps sp ∧ mg c = some (.ref (He.ga K c)) ∧ L2.Binds K fd ps ds ∧ Vals dvs ds
section
variable {X : Cx} {CX : CXT} {k j : Nat} {c : Str} {sp : Sp} {dvs : List V} {p pos : Pos} {e : Expr} {es : List Expr} {t : TA} {E : L2.St → XK}
def tMakeS (C : Addr) (sp : Sp) (dvs : List V) (E : L2.St → XK) (t : TA) : TE := fun σ H Q => t σ H fun vs H1 => ∀ x dx, H1 x = none → H1 dx = none → dx ≠ x →
  sp (.ref x :: (vs ++ dvs)) (upd (upd H1 dx (.own x)) x (.ins C dx [])) (fun v H2 => v = .non ∧ Q (.ref x) H2) (E σ)
theorem run_makeS {pins : List (Addr × Obj)} {σ : L2.St} {H : Hp} {s : Shared} {Q : VK} {us : List Value} {vs : List V} {C f : Addr} {fd : FuncData} {ps : List Str} {ds : List Value} {E : XK} (M : Mk X.K C f) (F : FnOk X.prog X.w X.K X.mg X.base CX k f fd ps sp) (hr : Room (k + 1) X.A) (hb : L2.Binds X.K fd ps ds) (hd : Vals dvs ds)
    (hx : PassesAt CX X σ E) (I : Inv X pins σ H s) (r : Vals vs us)
    (h : ∀ x dx, H x = none → H dx = none → dx ≠ x → sp (.ref x :: (vs ++ dvs)) (upd (upd H dx (.own x)) x (.ins C dx [])) (fun v H2 => v = .non ∧ Q (.ref x) H2) E) :
    wpAny (model X.prog X.w) X.A (call (.ref C) us) (EP X pins σ Q) X.xe s := by
  have hq := h (s.heap.objs.size + 1) s.heap.objs.size (I.hok.fresh (Nat.le_succ _)) (I.hok.fresh (Nat.le_refl _)) (Nat.ne_of_lt (Nat.lt_succ_self _))
  have I2 := Inv.made (C := C) I
  have r2 : Vals (V.ref (s.heap.objs.size + 1) :: (vs ++ dvs)) (Value.ref (s.heap.objs.size + 1) :: (us ++ ds)) := .cons rfl (r.append hd)
  have hl : (Value.ref (s.heap.objs.size + 1) :: us ++ ds).length = ps.length := by
    have e := r2.length
    rw [F.len _ _ _ _ hq] at e
    exact e.symm
  refine wpAny_call (make_map (f := f) I.kIn M.makes M.init (beq_iff_eq.mp M.fn) (codeAny_mono (F.run _ X.stack _ _ ⟨Value.ref (s.heap.objs.size + 1) :: us, []⟩ (Value.ref (s.heap.objs.size + 1) :: (us ++ ds)) _ _ E (hr.make C us [])
    (I2.env0.make C us []) (hb _ (Value.ref (s.heap.objs.size + 1) :: us) I2.kIn hl) r2 hq) fun r s' hq' => ?_))
  cases r with
  | error e => exact hx pins _ _ e s' I2 hq'
  | ok fl =>
    cases fl with
    | ret u =>
      obtain ⟨v, H', I3, rv, ev, q3⟩ := I2.after hq'
      subst ev
      exact ⟨rv, ⟨V.ref (s.heap.objs.size + 1), H', I3, rfl, q3⟩⟩
    | next => exact False.elim hq'
    | brk => exact False.elim hq'
    | cont => exact False.elim hq'
theorem pe_makeS (d : Mk' X.prog X.w X.K X.mg X.base CX k c sp dvs) (hr : Room j X.A) (hk : k + 1 ≤ j) (hx : ∀ σ, PassesAt CX X σ (E σ)) (ha : PA X (e :: es) t) (hg : Gl X c := by rfl)
    (hdb : (c == ("__debug__" : Str)) = false := by decide) (he : starEach (e :: es) X.env = (false, eval e X.env) :: starEach es X.env := by rfl) (hpl : (backTo pos (starEach es X.env)).any (·.1) = false := by rfl) :
    PE X (.Call (.Name c p) (e :: es) [] pos) (tMakeS (He.ga X.K c) sp dvs E t) := by
  refine ⟨fun pins s σ H Q I h => ?_⟩
  obtain ⟨f, fd, ps, ds, M, F, hm, b, d⟩ := d.ex
  refine wpAny_Call_Name_kw (ld_glob I hg hm ?_ hdb)
  refine PySem.W.callWith_K (h₀ := X.base) I.ok.mod.kin M.kp (thn (ha.run pos pins s σ H _ I h) fun us s1 ⟨vs, H1, I1, r, q⟩ => ⟨I1.kIn, ?_⟩) he hpl
  exact run_makeS M F (hr.mono hk) b d (hx σ) I1 r q
theorem pe_makeS0 (d : Mk' X.prog X.w X.K X.mg X.base CX k c sp dvs) (hr : Room j X.A) (hk : k + 1 ≤ j) (hx : ∀ σ, PassesAt CX X σ (E σ)) (hg : Gl X c := by rfl)
    (hdb : (c == ("__debug__" : Str)) = false := by decide) : PE X (.Call (.Name c p) [] [] pos) (tMakeS (He.ga X.K c) sp dvs E tNil) := by
  refine ⟨fun pins s σ H Q I h => ?_⟩
  obtain ⟨f, fd, ps, ds, M, F, hm, b, d⟩ := d.ex
  refine wpAny_Call_Name_kw (ld_glob I hg hm ?_ hdb)
  exact PySem.W.callWith_K0 I.kIn M.kp (run_makeS (us := []) M F (hr.mono hk) b d (hx σ) I .nil h)
end
def makeM (c : Str) (Φ : Fun) (dds : List D) (fa : M (List D)) : M D := bnd fa fun ds e => match Φ (.ref e.h.length :: (ds ++ dds)) (e.h ++ [.ins c []]) with
  | .ok .non h' => .ok (.ref e.h.length) ⟨e.ρ, h'⟩
  | .ok _ _ => .stuck
  | .ex x fs h' => .ex x fs ⟨e.ρ, h'⟩
  | .stuck => .stuck
section
variable {X : Cx} {C : Ct} {st : Stmt} {e : Expr}
theorem make_ok {n : Nat} {c : Str} {Φ : Fun} {ds : List D} {vs : List V} {G H : Hp} {ι : List Addr} {σ : L2.St} {en : En} {Q : VK} (hn : ds.length + 1 = n) (k : Ok C.K C.T G ι H σ en) (r : RDs C.K G ι ds vs)
    (h : PX C G ι σ (match Φ (.ref en.h.length :: ds) (en.h ++ [.ins c []]) with
      | .ok .non h' => .ok (.ref en.h.length) ⟨en.ρ, h'⟩
      | .ok _ _ => .stuck
      | .ex x fs h' => .ex x fs ⟨en.ρ, h'⟩
      | .stuck => .stuck : Res D) fun d _ G' ι' H' => ∀ v, RD C.K G' ι' d v → Q v H') : ∀ x dx, H x = none → H dx = none → dx ≠ x →
      spF C.K n Φ (.ref x :: vs) (upd (upd H dx (.own x)) x (.ins (He.ga C.K c) dx [])) (fun v H2 => v = .non ∧ Q (.ref x) H2) (WE C.W σ) := by
  intro x dx nx nd ne
  have n1 : (upd H dx (.own x)) x = none := by rw [upd_ne (Ne.symm ne)]; exact nx
  have k1 : Ok C.K C.T G ι (upd (upd H dx (.own x)) x (.ins (He.ga C.K c) dx [])) σ en := (k.temp nd).temp n1
  have k2 := k1.pub (a := x) (x := .ins c []) (k.hs.gnone nx) (k.hs.not_mem nx) ⟨dx, [], upd_same, rfl, .nil⟩
  have hx : (ι ++ [x])[en.h.length]? = some x := by
    rw [← k.hs.len, List.getElem?_append_right (Nat.le_refl _), Nat.sub_self]
    rfl
  refine ⟨by rw [List.length_cons, r.1]; exact hn, C.T, G, ι ++ [x], en.h ++ [.ins c []], .ref en.h.length :: ds, k2.tb, k2.hs, .cons (.ref hx) (r.up up_snoc), ?_⟩
  cases q : Φ (.ref en.h.length :: ds) (en.h ++ [.ins c []]) with
  | ok d h' =>
    rw [q] at h
    intro G' ι' H' v u s t rv
    cases rv with
    | non => exact ⟨rfl, h G' ι' H' (up_snoc.trans u) ⟨s, k.sl.up (up_snoc.trans u), t⟩ _ (.ref (pre_get u.i hx))⟩
    | _ => exact h.elim
  | ex y fs h' =>
    rw [q] at h
    exact fun G' ι' H' dd u s t z => h G' ι' H' dd (up_snoc.trans u) ⟨s, k.sl.up (up_snoc.trans u), t⟩ z
  | stuck =>
    rw [q] at h
    exact h
theorem v_make {n : Nat} {c : Str} {Φ : Fun} {dds : List D} {dvs : List V} {fa : M (List D)} (hd : ∀ G ι, RDs C.K G ι dds dvs) (hn : ∀ en ds e', fa en = .ok ds e' → (ds ++ dds).length + 1 = n)
    (p : PE X e (tMakeS (He.ga C.K c) (spF C.K n Φ) dvs (WE C.W) (tFA C fa))) : PE X e (tF C (makeM c Φ dds fa)) := imE p fun σ H Q h => by
  obtain ⟨G, ι, en, k, h⟩ := h
  have hx := h.bnd
  refine ⟨G, ι, en, k, ?_⟩
  cases q : fa en with
  | ok ds e1 =>
    rw [q] at hx
    intro G1 ι1 H1 u1 k1 vs r
    exact make_ok (hn _ _ _ q) k1 (r.append (hd G1 ι1)) (hx G1 ι1 H1 u1 k1)
  | ex x fs e1 =>
    rw [q] at hx
    exact hx
  | stuck =>
    rw [q] at hx
    exact hx
theorem v_make0 {n : Nat} {c : Str} {Φ : Fun} {dds : List D} {dvs : List V} (hd : ∀ G ι, RDs C.K G ι dds dvs) (hn : dds.length + 1 = n)
    (p : PE X e (tMakeS (He.ga C.K c) (spF C.K n Φ) dvs (WE C.W) tNil)) : PE X e (tF C (makeM c Φ dds nilM)) := imE p fun σ H Q h => by
  obtain ⟨G, ι, en, k, h⟩ := h
  exact make_ok hn k (hd G ι) h
end
end Fv


set_option Elab.async false
set_option linter.all false
set_option maxRecDepth 100000
set_option maxHeartbeats 4000000
set_option autoImplicit false
namespace Fv
open PySem PySem.Spec PyProof.Rows L2 Bm
section
variable {X : Cx} {CX : CXT} {k j : Nat} {x : Str} {sp : Sp} {dvs : List V} {E : L2.St → XK} {e : Expr} {es : List Expr} {t : TA} {p pos : Pos}
theorem pe_fS (c : Fn X.prog X.w X.K X.mg X.base CX k x sp dvs) (hr : Room j X.A) (hk : k ≤ j) (hx : ∀ σ, PassesAt CX X σ (E σ)) (ha : PA X (e :: es) t) (hg : Gl X x := by rfl)
    (hdb : (x == ("__debug__" : Str)) = false := by decide) (he : starEach (e :: es) X.env = (false, eval e X.env) :: starEach es X.env := by rfl) (hpl : (backTo pos (starEach es X.env)).any (·.1) = false := by rfl) :
    PE X (.Call (.Name x p) (e :: es) [] pos) (tCallSD sp dvs E t) := by
  obtain ⟨f, fd, ps, ds, hm, hkp, hb, hd, F⟩ := c.ex
  exact pe_callSD F (hr.mono hk) hg hm hkp hb hd hx ha hdb he hpl
theorem pe_fS0 (c : Fn X.prog X.w X.K X.mg X.base CX k x sp dvs) (hr : Room j X.A) (hk : k ≤ j) (hx : ∀ σ, PassesAt CX X σ (E σ)) (hg : Gl X x := by rfl)
    (hdb : (x == ("__debug__" : Str)) = false := by decide) : PE X (.Call (.Name x p) [] [] pos) (tCallSD sp dvs E tNil) := by
  obtain ⟨f, fd, ps, ds, hm, hkp, hb, hd, F⟩ := c.ex
  refine ⟨fun pins s σ H Q I h => ?_⟩
  refine wpAny_Call_Name_kw (ld_glob I hg hm ?_ hdb)
  exact PySem.W.callWith_K0 I.kIn hkp (run_fnSD (us := []) F (hr.mono hk) hb hd (hx σ) I .nil h)
theorem pass0S {X : Cx} (σ : L2.St) {E : XK} : PassesAt L2.CX0 X σ E := fun _ _ _ _ _ _ h => h.elim
end
theorem Fn.imp {P : Program} {w : World} {K : PySem.W.Frag} {mg : Str → Option Value} {base : Heap} {CX : CXT} {k : Nat} {x : Str} {sp sp' : Sp} {dvs : List V} (c : Fn P w K mg base CX k x sp dvs) (h : ∀ vs H Q E, sp' vs H Q E → sp vs H Q E) : Fn P w K mg base CX k x sp' dvs := by
  obtain ⟨f, fd, ps, ds, hm, hkp, hb, hd, F⟩ := c.ex
  exact ⟨f, fd, ps, ds, hm, hkp, hb, hd, F.imp h⟩
theorem Fn.fin {P : Program} {w : World} {K : PySem.W.Frag} {mg : Str → Option Value} {base : Heap} {CX : CXT} {k n : Nat} {x : Str} {Φ : Fun} {dvs : List V} (c : Fn P w K mg base CX k x (spF K n Φ) dvs) : Fn P w K mg base CX k x (spF K n (finF Φ)) dvs := Fn.imp c imFin
section
variable {X : Cx} {C : Ct} {e : Expr}
theorem v_call0 {n : Nat} {Φ : Fun} {dds : List D} {dvs : List V} (hd : ∀ G ι, RDs C.K G ι dds dvs) (hn : dds.length = n) (p : PE X e (tCallSD (spF C.K n Φ) dvs (WE C.W) tNil)) : PE X e (tF C (callM Φ dds nilM)) := imE p fun σ H Q h => by
  obtain ⟨G, ι, en, k, h⟩ := h
  have rr := hd G ι
  exact ⟨rr.1.trans hn, C.T, G, ι, en.h, dds, k.tb, k.hs, rr, PX.call k h⟩
end
section
variable {K : PySem.W.Frag} {G : Hp} {ι : List Addr}
theorem rd_strs (xs : List Str) : RDs K G ι (xs.map D.str) (xs.map V.str) := by
  induction xs with
  | nil => exact .nil
  | cons x xs ih => exact .cons (.str x) ih
theorem rd_nil : ∀ (G : Hp) (ι : List Addr), RDs K G ι [] [] := fun _ _ => .nil
end
/-! ### _law_same: the same data -/
open Classical in
noncomputable def sameF (n : Nat) : Fun := fun ds h => match ds with
  | [x, y] => match dataOf h x with
    | some p => if dataOf h y = some p ∧ depD n p = true then .ok (.bl true) h else .stuck
    | none => .stuck
  | _ => .stuck
theorem same_fn {P : Program} {w : World} {K : PySem.W.Frag} {mg : Str → Option Value} {base : Heap} {CX : CXT} {k n : Nat} {x : Str} (c : Fn P w K mg base CX k x (spSame K n) []) : Fn P w K mg base CX k x (spF K 2 (sameF n)) [] := Fn.imp c fun vs H Q E h => by
  obtain ⟨hl, T, G, ι, hp, ds, ht, hs, r, p⟩ := h
  unfold sameF at p
  split at p
  · rename_i a b
    split at p
    · rename_i d hd
      split at p
      · rename_i cc
        obtain ⟨v, u, rfl, r1, r2⟩ := r.two_of
        exact ⟨v, u, d, rfl, data_dp hs r1 hd, data_dp hs r2 cc.1, cc.2, fun H' s => p G ι H' _ Up.refl (hs.keep s) (ht.ext s) (.bl true)⟩
      · exact p.elim
    · exact p.elim
  · exact p.elim
end Fv


set_option Elab.async false
set_option linter.all false
set_option maxRecDepth 100000
set_option maxHeartbeats 4000000
set_option autoImplicit false
namespace Fv
open PySem PySem.Spec PyProof.Rows L2 Bm
theorem len_app1 {n m : Nat} {f : M (List D)} (h : LenM n f) {dds : List D} (e : n + dds.length + 1 = m) : ∀ en ds e', f en = .ok ds e' → (ds ++ dds).length + 1 = m := fun en ds e' q => by
  rw [List.length_append, h _ _ _ q, e]
theorem Me.mono {P : Program} {w : World} {K : PySem.W.Frag} {mg : Str → Option Value} {base : Heap} {CX : CXT} {j k : Nat} {c m : Str} {sp : Sp} {dvs : List V} (d : Me P w K mg base CX j c m sp dvs) (h : j ≤ k) : Me P w K mg base CX k c m sp dvs := by
  obtain ⟨f, fd, ps, ds, hc, hm, F, b, d⟩ := d.ex
  exact ⟨f, fd, ps, ds, hc, hm, F.mono h, b, d⟩
abbrev dinD : List Ob → D → D → Option D := fun h y x => (dinF h x y).map .bl
abbrev dnotinD : List Ob → D → D → Option D := fun h y x => (dinF h x y).map fun b => .bl (!b)
def addI : List Ob → D → D → Option D := int2 fun i j => some (.int (i + j))
theorem s_addI {K : PySem.W.Frag} : Op2 K (rI0 fun i j => .int (i + j)) addI := o2I0 fun i j d e G ι => by cases e; exact .int _
section
variable {X : Cx} {C : Ct} {st : Stmt} {e : Expr}
/-- a comparison's value as a test -/
theorem v_tb {f : M D} {t : TE} (i : ∀ σ H Q, tF C f σ H Q → t σ H Q) (p : PT X e (tB t)) : PT X e (tFB C (bM f)) := imT p fun σ H Q h => i σ H _ (imB σ H Q h)
def parM3 (i j l : Nat) (f : M (List D)) : M Fl := bnd f fun ds e => match ds with
  | [x, y, z] => .ok .nx ⟨((e.ρ.set i (some x)).set j (some y)).set l (some z), e.h⟩
  | _ => .stuck
theorem s_par3 {i j l : Nat} {f : M (List D)} (p : PS X st (tPar3 i j l (tFA C f))) : PS X st (tFS C (parM3 i j l f)) := imS p fun Z σ H h => by
  obtain ⟨G, ι, en, k, h⟩ := h
  refine ⟨G, ι, en, k, PX.imp (PS'.bnd h) fun ds e1 G1 ι1 H1 u1 k1 q1 vs r => ?_⟩
  match ds, r, q1 with
  | [], r, q1 => exact q1.elim
  | [x], r, q1 => exact q1.elim
  | [x, y], r, q1 => exact q1.elim
  | [x, y, z], r, q1 =>
    obtain ⟨u, us, rfl, r1, r0⟩ := r.inv_cons
    obtain ⟨v, w, rfl, r2, r3⟩ := r0.two_of
    exact ⟨u, v, w, rfl, q1 G1 ι1 H1 _ Up.refl (((k1.set r1).set r2).set r3)⟩
  | x :: y :: z :: w :: t, r, q1 => exact q1.elim
/-! ### operators that make new things -/
def o2 (g : List Ob → D → D → Option Ob) (fa fb : M D) : M Ob := bnd fa fun x => bnd fb fun y => lft fun h => g h x y
def Op2O (K : PySem.W.Frag) (r : R2) (g : List Ob → D → D → Option Ob) : Prop := ∀ (G : Hp) (ι : List Addr) (H : Hp) (h : List Ob) (x y : D) (o : Ob) (u v : V) (Q : VK), Hs K G ι H h → RD K G ι x u → RD K G ι y v → g h x y = some o →
  (∀ H' a, Same H H' → Hs K G ι H' h → G a = none → a ∉ ι → ObOk K G ι H' a o → Q (.ref a) H') → r u v H Q
theorem o_op {op : Operator} {a b : Expr} {pos : Pos} {r : R2} {g : List Ob → D → D → Option Ob} {fa fb : M D} (o : OpR X (binaryOp op) r) (s : Op2O C.K r g) (ha : PE X a (tF C fa)) (hb : PE X b (tF C fb)) : PE X (.BinOp a op b pos) (tFO C (o2 g fa fb)) :=
  imE (pe_op o ha hb) fun σ H Q h => by
  obtain ⟨G, ι, en, k, h⟩ := h
  refine ⟨G, ι, en, k, PX.imp h.bnd fun x e1 G1 ι1 H1 u1 k1 q1 u ru => ⟨G1, ι1, e1, k1, PX.imp q1.bnd fun y e2 G2 ι2 H2 u2 k2 q2 v rv => ?_⟩⟩
  obtain ⟨d, hd, q⟩ := q2.lft
  exact s G2 ι2 H2 e2.h x y d u v Q k2.hs (ru.up u2) rv hd fun H' a s1 hs n m ob => q G2 ι2 H' Up.refl (k2.grow (Same.refl _) s1 hs) a n m ob
def catO (h : List Ob) (x y : D) : Option Ob := match lstOf h x, lstOf h y with
  | some xs, some ys => if xs.length + ys.length ≤ sizeLine then some (.lst (xs ++ ys)) else none
  | _, _ => none
theorem s_catO {K : PySem.W.Frag} : Op2O K rCat catO := by
  intro G ι H h x y d u v Q s rx ry e q
  unfold catO at e
  split at e
  · rename_i xs ys h1 h2
    split at e
    · rename_i hl
      cases e
      obtain ⟨a, vs, rfl, a1, a2⟩ := lst_rd s rx h1
      obtain ⟨b, us, rfl, b1, b2⟩ := lst_rd s ry h2
      exact ⟨a, b, vs, us, rfl, rfl, a1, b1, by rw [a2.1, b2.1]; exact hl, fun p n => q _ p (Same.new n) (s.temp n) (s.gnone n) (s.not_mem n) ⟨_, upd_same, a2.append b2⟩⟩
    · cases e
  · cases e
def repO (h : List Ob) (x y : D) : Option Ob := match lstOf h x, y with
  | some xs, .int k => if -(2 ^ 63) ≤ k ∧ k < 2 ^ 63 ∧ xs.length * k.toNat ≤ sizeLine then some (.lst (List.replicate k.toNat xs).flatten) else none
  | _, _ => none
theorem s_repO {K : PySem.W.Frag} : Op2O K rRep repO := by
  intro G ι H h x y d u v Q s rx ry e q
  unfold repO at e
  split at e
  · rename_i xs k h1
    split at e
    · rename_i c
      cases e
      obtain ⟨a, vs, rfl, a1, a2⟩ := lst_rd s rx h1
      cases ry
      exact ⟨a, k, vs, rfl, rfl, a1, c.1, c.2.1, by rw [a2.1]; exact c.2.2, fun p n => q _ p (Same.new n) (s.temp n) (s.gnone n) (s.not_mem n) ⟨_, upd_same, a2.rep _⟩⟩
    · cases e
  · cases e
/-! ### C(.., k = v) -/
def makeK (c : Str) (Φ : Fun) (fa fk : M (List D)) : M D := bnd fa fun ds => bnd fk fun es e => match Φ (.ref e.h.length :: (ds ++ es)) (e.h ++ [.ins c []]) with
  | .ok .non h' => .ok (.ref e.h.length) ⟨e.ρ, h'⟩
  | .ok _ _ => .stuck
  | .ex x fs h' => .ex x fs ⟨e.ρ, h'⟩
  | .stuck => .stuck
theorem k_nil : PK X [] (tFA C nilM) := ⟨fun pos pins s σ H Q I h => pk_nil.run pos pins s σ H Q I (by
  obtain ⟨G, ι, en, k, h⟩ := h
  exact PX.now (a := ([] : List D)) h k [] .nil)⟩
theorem k_cons {kws : List Keyword} {nm : Option Str} {kpos : Pos} {f : M D} {g : M (List D)} (ha : PE X e (tF C f)) (hr : PK X kws (tFA C g)) : PK X (⟨nm, e, kpos⟩ :: kws) (tFA C (consM f g)) := ⟨fun pos pins s σ H Q I h => (pk_cons ha hr).run pos pins s σ H Q I (imCons σ H Q h)⟩
theorem v_makeK {n m l : Nat} {c : Str} {Φ : Fun} {fa fk : M (List D)} {E : XK} (hW : WE C.W = fun _ => E) (hn : LenM n fa) (hm : LenM m fk) (hl : n + m + 1 = l)
    (p : PE X e (tMakeN (He.ga C.K c) n m (spF C.K l Φ) (fun us ws => us ++ ws) E (tFA C fa) (tFA C fk))) : PE X e (tF C (makeK c Φ fa fk)) := imE p fun σ H Q h => by
  obtain ⟨G, ι, en, k, h⟩ := h
  have hx := h.bnd
  refine ⟨G, ι, en, k, ?_⟩
  cases q : fa en with
  | ok ds e1 =>
    rw [q] at hx
    intro G1 ι1 H1 u1 k1 vs r
    have h2 := hx G1 ι1 H1 u1 k1
    have hy := PX.bnd h2
    refine ⟨G1, ι1, e1, k1, ?_⟩
    cases q2 : fk e1 with
    | ok es e2 =>
      rw [q2] at hy
      intro G2 ι2 H2 u2 k2 zs rz
      have hE : E = WE C.W σ := by rw [hW]
      rw [hE]
      refine ⟨by rw [r.1]; exact hn _ _ _ q, by rw [rz.1]; exact hm _ _ _ q2, ?_⟩
      exact make_ok (ds := ds ++ es) (by rw [List.length_append, hn _ _ _ q, hm _ _ _ q2]; exact hl) k2 ((r.up u2).append rz) (hy G2 ι2 H2 u2 k2)
    | ex x fs e2 =>
      rw [q2] at hy
      exact hy
    | stuck =>
      rw [q2] at hy
      exact hy
  | ex x fs e1 =>
    rw [q] at hx
    exact hx
  | stuck =>
    rw [q] at hx
    exact hx
end
structure MkK (P : Program) (w : World) (K : PySem.W.Frag) (mg : Str → Option Value) (base : Heap) (CX : CXT) (k : Nat) (c : Str) (sp : Sp) (n : Nat) (ks : List Str) : Prop where
  ex : ∃ (f : Addr) (fd : FuncData) (ps : List Str) (g : List Value → List Value → List Value), Mk K (He.ga K c) f ∧ FnOk P w K mg base CX k f fd ps sp ∧ mg c = some (.ref (He.ga K c)) ∧ KBn K fd ps (n + 1) ks g (fun us ws => us ++ ws)
theorem pe_mkK {X : Cx} {CX : CXT} {k j n : Nat} {c : Str} {sp : Sp} {p pos : Pos} {e : Expr} {es : List Expr} {t tk : TA} {E : XK} {kws : List Keyword} {ks : List Str} (d : MkK X.prog X.w X.K X.mg X.base CX k c sp n ks) (hr : Room j X.A) (hk : k + 1 ≤ j) (hx : Passes CX X E) (ha : PA X (e :: es) t) (hkw : PK X kws tk) (hg : Gl X c := by rfl)
    (hall : (backToKw pos (keywordEach kws X.env)).all (·.1.isSome) = true := by rfl) (hks : (backToKw pos (keywordEach kws X.env)).filterMap (·.1) = ks := by rfl)
    (hdb : (c == ("__debug__" : Str)) = false := by decide) (he : starEach (e :: es) X.env = (false, eval e X.env) :: starEach es X.env := by rfl)
    (hpl : ((backTo pos (starEach (e :: es) X.env)).any (·.1) || (backToKw pos (keywordEach kws X.env)).any (·.1.isNone)) = false := by rfl) :
    PE X (.Call (.Name c p) (e :: es) kws pos) (tMakeN (He.ga X.K c) n ks.length sp (fun us ws => us ++ ws) E t tk) := by
  obtain ⟨f, fd, ps, g, M, F, hm, b⟩ := d.ex
  exact pe_makeN M F (hr.mono hk) hg hm b hx ha hkw hall hks hdb he hpl
/-! ### texts -/
section
variable {K : PySem.W.Frag}
def startswithD : List Ob → D → List D → Option D
  | _, .str a, [.str b] => some (.bl (Txt.startswith a b))
  | _, _, _ => none
def endswithD : List Ob → D → List D → Option D
  | _, .str a, [.str b] => some (.bl (Txt.endswith a b))
  | _, _, _ => none
/-- all, any of a list of bools -/
def boolsOf : List D → Option (List Bool)
  | [] => some []
  | .bl b :: r => (boolsOf r).map (b :: ·)
  | _ :: _ => none
theorem bools_rd {G : Hp} {ι : List Addr} : ∀ {xs : List D} {vs : List V} {bs : List Bool}, RDs K G ι xs vs → boolsOf xs = some bs → vs = bs.map V.bl := by
  intro xs
  induction xs with
  | nil =>
    intro vs ns r e
    cases e
    exact r.inv_nil
  | cons d xs ih =>
    intro vs ns r e
    obtain ⟨v, vs', rfl, r1, r2⟩ := r.inv_cons
    cases r1 with
    | bl i =>
      obtain ⟨ms, e1, rfl⟩ := Option.map_eq_some_iff.mp (show (boolsOf xs).map (i :: ·) = some ns from e)
      rw [ih r2 e1] <;> rfl
    | _ => cases e
def allD (h : List Ob) : List D → Option D
  | [d] => match lstOf h d with
    | some xs => (boolsOf xs).map fun bs => .bl (bs.all id)
    | none => none
  | _ => none
def anyD (h : List Ob) : List D → Option D
  | [d] => match lstOf h d with
    | some xs => (boolsOf xs).map fun bs => .bl (bs.any id)
    | none => none
  | _ => none
theorem s_all : OpN K (rAll K) allD := by
  intro G ι H h xs d vs Q s rs e q
  match xs, rs, e with
  | [], _, e => cases e
  | [x], rs, e =>
    obtain ⟨v, rfl, r⟩ := rs.one_of
    have e : (match lstOf h x with
      | some xs => (boolsOf xs).map fun bs => D.bl (bs.all id)
      | none => none) = some d := e
    split at e
    · rename_i ys hy
      obtain ⟨ns, e1, rfl⟩ := Option.map_eq_some_iff.mp e
      obtain ⟨a, us, rfl, h1, h2⟩ := lst_rd s r hy
      rw [bools_rd h2 e1] at h1
      exact ⟨a, ns, rfl, SqL.of h1, q G H _ (Same.refl _) (Same.refl _) s (.bl _)⟩
    · cases e
  | x :: y :: r, _, e => cases e
theorem s_any : OpN K (rAny K) anyD := by
  intro G ι H h xs d vs Q s rs e q
  match xs, rs, e with
  | [], _, e => cases e
  | [x], rs, e =>
    obtain ⟨v, rfl, r⟩ := rs.one_of
    have e : (match lstOf h x with
      | some xs => (boolsOf xs).map fun bs => D.bl (bs.any id)
      | none => none) = some d := e
    split at e
    · rename_i ys hy
      obtain ⟨ns, e1, rfl⟩ := Option.map_eq_some_iff.mp e
      obtain ⟨a, us, rfl, h1, h2⟩ := lst_rd s r hy
      rw [bools_rd h2 e1] at h1
      exact ⟨a, ns, rfl, SqL.of h1, q G H _ (Same.refl _) (Same.refl _) s (.bl _)⟩
    · cases e
  | x :: y :: r, _, e => cases e
end
end Fv
namespace Fv
open PySem PySem.Spec PyProof.Rows L2 Bm
section
variable {X : Cx}
theorem list_extend_tupG (l : Addr) (items : Array Value) (n : Nat) (b : Addr) (items2 : Array Value) (n2 : Nat) (dd : Option Addr) (sl : Array (Option Value)) (hs0 : ¬(!items.isEmpty && Builtin.List.listTooLong (items.size + items2.size)) = true) (hs1 : items.size ≤ sizeLine) (hs2 : items.size + items2.size ≤ sizeLine + 1) :
    Meets (Builtin.«list.extend» ⟨[.ref l, .ref b], []⟩) (fun _ R s => s.heap.get? l = some { cls := .type "list", dict := none, data := .seq items n, slots := #[] } ∧ s.heap.get? b = some { cls := .type "tuple", dict := dd, data := .seq items2 n2, slots := sl } ∧ R (.ok (.ret Value.none)) { s with heap := s.heap.update l (Obj.mapSeq fun x => x ++ items2), toks := s.toks }) :=
  .of_wp fun prog w A R s h => by
    obtain ⟨hp, g, d, tk, os⟩ := s
    obtain ⟨hl, hb, h⟩ := h
    have f1 := AutoSeq1.idx_int
    have f2 := AutoSeq1.sub_tuple_tuple
    have f3 := AutoSeq1.sub_list_list
    have f4 := AutoSeq1.sub_tuple_list
    have f5 := AutoSeq1.sub_list_tuple
    have hz' : (items ++ items2).size ≤ sizeLine + 1 := by
      rw [Array.size_append]
      exact hs2
    wp_walk using (wpAny_updateSeq hl rfl (hz := hs1) (_hz' := hz')), wpAny_loadPart' hl, wpAny_loadPart' hb
    exact ⟨_, rfl, h⟩
def rExtT (K : PySem.W.Frag) : V → List V → Hp → VK → Prop := fun x vs H Q => ∃ l b xs zs, x = .ref l ∧ vs = [.ref b] ∧ H l = some (.lst xs) ∧ SqT K H b zs ∧ xs.length + zs.length ≤ sizeLine ∧ Q .non (upd H l (.lst (xs ++ zs)))
theorem mt_extT : MtR X "list.extend" (rExtT X.K) := by
  intro pins s σ H x vs v us Q I rx rv h
  obtain ⟨l, b, xs, zs, rfl, rfl, hH, hB, hz, q⟩ := h
  cases rx
  obtain ⟨u, rfl, ru⟩ := rv.one
  cases ru
  obtain ⟨z, its, n, r, hl, e⟩ := I.lstM hH
  obtain ⟨its2, r2, ⟨⟨cls, dd, data, sl⟩, e2, hc, n2, hd⟩, hs2⟩ := I.tuple hB
  simp only at hc hd
  subst hc hd
  have hl2 := r2.length
  have hsz : its.toArray.size + its2.toArray.size ≤ sizeLine := by rw [List.size_toArray, List.size_toArray]; omega
  have hlong : ¬ (!its.toArray.isEmpty && Builtin.List.listTooLong (its.toArray.size + its2.toArray.size)) = true := by
    rw [notLongL hsz, Bool.and_false]
    exact Bool.false_ne_true
  refine call_meets F.slot_list_extend ⟨_, e, rfl⟩ F.entry_list_extend (F.args_list_extend_2 _ _)
    (list_extend_tupG l its.toArray n b its2.toArray n2 dd sl hlong (by rw [List.size_toArray]; omega) (by omega)) ⟨e, e2, ?_⟩
  refine ⟨.non, _, I.lset (its' := its ++ its2) hH e (by simp) (r.append r2) ?_, rfl, q⟩
  rw [List.length_append]
  omega
def rExtA (K : PySem.W.Frag) : V → List V → Hp → VK → Prop := fun x vs H Q => rExtend x vs H Q ∨ rExtT K x vs H Q
theorem mt_extA : MtR X "list.extend" (rExtA X.K) := by
  intro pins s σ H x vs v us Q I rx rv h
  rcases h with h | h
  · exact mt_extend pins s σ H x vs v us Q I rx rv h
  · exact mt_extT pins s σ H x vs v us Q I rx rv h
end
def extendA : List Ob → Ob → List D → Option (D × Ob)
  | h, .lst xs, [d] => match d with
    | .tup ys => if xs.length + ys.length ≤ 1000000 then some (.non, .lst (xs ++ ys)) else none
    | d => match lstOf h d with
      | some ys => if xs.length + ys.length ≤ 1000000 then some (.non, .lst (xs ++ ys)) else none
      | none => none
  | _, _, _ => none
theorem s_extA {K : PySem.W.Frag} : MtU K (rExtA K) extendA := by
  intro G ι H h a o o' ds vs d Q s q rs e k
  unfold extendA at e
  split at e
  · rename_i xs y
    obtain ⟨us, h1, h2⟩ := q
    obtain ⟨v, rfl, r⟩ := rs.one_of
    split at e
    · rename_i ys
      split at e
      · rename_i c
        cases e
        cases r with
        | tup hh l qq =>
          exact .inr ⟨a, _, us, _, rfl, rfl, h1, sqT_at (fun o z => s.s _ o z) hh, by rw [h2.1, l]; exact Nat.le_trans c (by decide), k _ _ ⟨_, upd_same, h2.append ⟨l, qq⟩⟩ .non⟩
      · cases e
    · split at e
      · rename_i ys hy
        split at e
        · rename_i c
          cases e
          obtain ⟨b, ws, rfl, h3, h4⟩ := lst_rd s r hy
          exact .inl ⟨a, b, us, ws, rfl, rfl, h1, h3, by rw [h2.1, h4.1]; exact Nat.le_trans c (by decide), k _ _ ⟨_, upd_same, h2.append h4⟩ .non⟩
        · cases e
      · cases e
  · cases e
theorem s_startswith {K : PySem.W.Frag} : MtN K (fun x xs H Q => ∃ a b, x = .str a ∧ xs = [.str b] ∧ Q (.bl (Txt.startswith a b)) H) "str" startswithD := by
  intro G ι H h x d v ds vs Q s rx rs e q
  unfold startswithD at e
  split at e
  · rename_i a b
    cases e
    obtain ⟨w, rfl, r⟩ := rs.one_of
    cases rx
    cases r
    exact ⟨a, b, rfl, rfl, q G H _ (Same.refl _) (Same.refl _) s (.bl _)⟩
  · cases e
theorem s_endswith {K : PySem.W.Frag} : MtN K (fun x xs H Q => ∃ a b, x = .str a ∧ xs = [.str b] ∧ Q (.bl (Txt.endswith a b)) H) "str" endswithD := by
  intro G ι H h x d v ds vs Q s rx rs e q
  unfold endswithD at e
  split at e
  · rename_i a b
    cases e
    obtain ⟨w, rfl, r⟩ := rs.one_of
    cases rx
    cases r
    exact ⟨a, b, rfl, rfl, q G H _ (Same.refl _) (Same.refl _) s (.bl _)⟩
  · cases e
end Fv
namespace Fv
open PySem PySem.Spec PyProof.Rows L2 Bm
section
variable {X : Cx} {C : Ct} {e : Expr} {pos : Pos}
theorem s_raiseP {x : Str} (hc : X.calm = true) (tk : Takes X C.W) (pm : PMk X e (fun _ H Q => Q (.ref (He.ga C.K x)) none H)) : PS X (.Raise (some e) none pos) (tFS C (raiseM x)) := s_raise (ps_raise (W := C.W) hc tk pm)
theorem s_raiseQ {x : Str} {f : M (List D)} (O : OexC C.K (He.ga C.K x)) (hno : PySem.W.findIn C.K (.ref (He.ga C.K x)) "number" = some none) (hc : X.calm = true) (tk : Takes X C.W) (pm : PMk X e (tMkO (He.ga C.K x) (spNumI C.K) [] (tFA C f))) : PS X (.Raise (some e) none pos) (tFS C (raiseN x f)) := s_raiseN O hno (ps_raise (W := C.W) hc tk pm)
end
end Fv


set_option Elab.async false
set_option linter.all false
set_option maxRecDepth 100000
set_option maxHeartbeats 4000000
set_option autoImplicit false
/-! ### zip(.., strict=True) of two lists of one length -/
namespace PySem
open PyProof.Rows
abbrev IsZipS (h : Heap) (z TI TO : Addr) (f : Value) : Prop := h.get? z = some { cls := .type "zip", dict := none, data := .fields #[f, .bool false, .bool true, .ref TI, .ref TO], slots := #[] }
section
variable {prog : Program} {w : World} {A : Around} {E : Value → Shared → Prop} {s : Shared}
theorem nextOrEnd_item {it l : Addr} {i : Nat} {items : Array Value} {x : Value} {Q : Option Value → Shared → Prop} (hit : s.heap.IsListIter it l i) (hl : s.heap.IsList l items) (hx : items[i]? = some x)
    (hQ : ∀ h', h'.IsListIter it l (i + 1) → Heap.SameBut it s.heap h' → Q (some x) { s with heap := h' }) : wpAny (model prog w) A (Builtin.SmallTypes.nextOrEnd (.ref it)) Q E s := by
  unfold Builtin.SmallTypes.nextOrEnd
  exact wpAny_bind (wpAny_attempt (wpAny_nextOf_list_item hit hl hx fun h' a1 a2 => wpAny_pure (hQ h' a1 a2)))
theorem nextOrEnd_end {it l : Addr} {i : Nat} {items : Array Value} {Q : Option Value → Shared → Prop} (hh : A.handled = none) (hit : s.heap.IsListIter it l i) (hl : s.heap.IsList l items) (hx : items[i]? = none)
    (hQ : ∀ h', Heap.ExtBut it s.heap h' → Q none { s with heap := h' }) : wpAny (model prog w) A (Builtin.SmallTypes.nextOrEnd (.ref it)) Q E s := by
  unfold Builtin.SmallTypes.nextOrEnd
  refine wpAny_bind (wpAny_attempt (wpAny_nextOf_list_end hh hit hl hx fun h' e he hx' => ?_))
  obtain ⟨o, ho, hc⟩ := hx'
  refine wpAny_bind (wpAny_isInstance (T := "StopIteration") (b := true) ⟨o, ho, hc⟩ isSubtype_stop ?_)
  exact wpAny_pure (hQ _ he)
theorem zipS_item {z TI TO i1 i2 l1 l2 : Addr} {k1 k2 : Nat} {xs ys : Array Value} {x y a b : Value} {Q : Value → Shared → Prop} (D : ZipApart z TI TO i1 i2 l1 l2)
    (hz : IsZipS s.heap z TI TO .none) (hTI : IsPair s.heap TI (.ref i1) (.ref i2)) (hTO : IsPair s.heap TO a b)
    (c1 : s.heap.IsListIter i1 l1 k1) (c2 : s.heap.IsListIter i2 l2 k2) (m1 : s.heap.IsList l1 xs) (m2 : s.heap.IsList l2 ys) (hx : xs[k1]? = some x) (hy : ys[k2]? = some y)
    (hQ : ∀ g, IsZipS g z TI TO (rawInt s.heap.objs.size) → IsPair g TO x y → g.IsListIter i1 l1 (k1 + 1) → g.IsListIter i2 l2 (k2 + 1) → IsPair g s.heap.objs.size x y → g.objs.size = s.heap.objs.size + 1 →
      (∀ c o, c ≠ z → c ≠ TO → c ≠ i1 → c ≠ i2 → s.heap.get? c = some o → g.get? c = some o) → Q (.ref s.heap.objs.size) { s with heap := g }) :
    wpAny (model prog w) A (Builtin.«zip.__next__» ⟨[.ref z], []⟩) (fun fin s' => ∃ v, fin = .done (.ret v) ∧ Q v s') E s := by
  show wpAny _ _ (field (.ref z) 2 >>= _) _ _ _
  refine wpAny_bind (wpAny_field hz rfl (x := .bool true) rfl ?_)
  show wpAny _ _ (field (.ref z) 3 >>= _) _ _ _
  refine wpAny_bind (wpAny_field hz rfl (x := .ref TI) rfl (?_ : wpAny _ _ _ _ _ _))
  refine wpAny_bind (wpAny_seqItems hTI rfl (?_ : wpAny _ _ _ _ _ _))
  show wpAny _ _ (Builtin.SmallTypes.ownedTupleIsFree (.ref z) >>= _) _ E s
  refine wpAny_bind ?_
  unfold Builtin.SmallTypes.ownedTupleIsFree
  refine wpAny_bind (wpAny_field hz rfl (x := .none) rfl (wpAny_pure (?_ : wpAny _ _ _ _ _ _)))
  simp only [if_true]
  refine wpAny_bind (wpAny_rule ?_)
  refine wpAny_bind (wpAny_field hz rfl (x := .ref TO) rfl (?_ : wpAny _ _ _ _ _ _))
  refine wpAny_bind (wpAny_setField_rec hz (by simp) fun g1 zg1 sg1 => ?_)
  replace zg1 : IsZipS g1 z TI TO .ellipsis := zg1
  refine wpAny_bind ?_
  simp only [List.zipIdx_cons, List.zipIdx_nil, List.forIn_cons, List.forIn_nil] at *
  refine wpAny_bind (wpAny_bind (wpAny_onRaise ?_))
  show wpAny _ _ (Builtin.SmallTypes.nextOrEnd (.ref i1)) _ _ _
  refine nextOrEnd_item (c1.extBut sg1.extBut D.i1z) (m1.extBut sg1.extBut D.l1z) hx fun g2 c12 sg2 => ?_
  have TO2 : IsPair g2 TO a b := sg2.extBut _ _ D.TOi1 (sg1.extBut _ _ D.TOz hTO)
  refine wpAny_bind (wpAny_seqItems TO2 rfl ?_)
  refine wpAny_bind (wpAny_updateSeq_pair TO2 fun g3 TO3 sg3 => ?_)
  replace TO3 : IsPair g3 TO x b := TO3
  refine wpAny_bind (wpAny_letGo (wpAny_pure (?_ : wpAny _ _ _ _ _ _)))
  refine wpAny_bind (wpAny_bind (wpAny_onRaise ?_))
  show wpAny _ _ (Builtin.SmallTypes.nextOrEnd (.ref i2)) _ _ _
  refine nextOrEnd_item (((c2.extBut sg1.extBut D.i2z).extBut sg2.extBut D.i12.symm).extBut sg3.extBut D.TOi2.symm)
    (((m2.extBut sg1.extBut D.l2z).extBut sg2.extBut D.l2i1).extBut sg3.extBut D.l2TO) hy fun g4 c24 sg4 => ?_
  have TO4 : IsPair g4 TO x b := sg4.extBut _ _ D.TOi2 TO3
  refine wpAny_bind (wpAny_seqItems TO4 rfl ?_)
  refine wpAny_bind (wpAny_updateSeq_pair TO4 fun g5 TO5 sg5 => ?_)
  replace TO5 : IsPair g5 TO x y := TO5
  refine wpAny_bind (wpAny_letGo (wpAny_pure (wpAny_pure (?_ : wpAny _ _ _ _ _ _))))
  refine wpAny_bind (wpAny_seqItems TO5 rfl ?_)
  refine wpAny_bind (wpAny_newTuple (?_ : wpAny _ _ _ _ _ _))
  have hsz : g5.objs.size = s.heap.objs.size := by rw [sg5.1, sg4.1, sg3.1, sg2.1, sg1.1]
  have zg5 : IsZipS g5 z TI TO .ellipsis := sg5.extBut _ _ D.TOz.symm (sg4.extBut _ _ D.i2z.symm (sg3.extBut _ _ D.TOz.symm (sg2.extBut _ _ D.i1z.symm zg1)))
  have kg5 : ∀ c o, c ≠ z → c ≠ TO → c ≠ i1 → c ≠ i2 → s.heap.get? c = some o → g5.get? c = some o := fun c o e1 e2 e3 e4 e =>
    sg5.extBut _ _ e2 (sg4.extBut _ _ e4 (sg3.extBut _ _ e2 (sg2.extBut _ _ e3 (sg1.extBut _ _ e1 e))))
  have d1 : g5.IsListIter i1 l1 (k1 + 1) := ((c12.extBut sg3.extBut D.TOi1.symm).extBut sg4.extBut D.i12).extBut sg5.extBut D.TOi1.symm
  have d2 : g5.IsListIter i2 l2 (k2 + 1) := c24.extBut sg5.extBut D.TOi2.symm
  have zlt : z < g5.objs.size := Heap.lt_size zg5
  show wpAny _ _ (Builtin.SmallTypes.ownedTupleHandOut (.ref z) (.ref g5.objs.size) >>= _) _ _ _
  refine wpAny_bind ?_
  unfold Builtin.SmallTypes.ownedTupleHandOut
  have zg6 : IsZipS (g5.push { cls := .type "tuple", data := .seq #[x, y] }) z TI TO .ellipsis := Heap.get?_push_of_some _ zg5
  refine wpAny_bind (wpAny_setField_rec zg6 (by simp) fun g7 zg7 sg7 => ?_)
  replace zg7 : IsZipS g7 z TI TO (rawInt g5.objs.size) := zg7
  refine wpAny_setField_rec zg7 (by simp) fun g8 zg8 sg8 => ?_
  replace zg8 : IsZipS g8 z TI TO (rawInt g5.objs.size) := zg8
  have up : ∀ c o, c ≠ z → g5.get? c = some o → g8.get? c = some o := fun c o e1 e => sg8.extBut _ _ e1 (sg7.extBut _ _ e1 (Heap.get?_push_of_some _ e))
  have T8 : IsPair g8 g5.objs.size x y := sg8.extBut _ _ (Nat.ne_of_gt zlt) (sg7.extBut _ _ (Nat.ne_of_gt zlt) (Heap.get?_push_size _ rfl))
  have z8 : g8.objs.size = g5.objs.size + 1 := by rw [sg8.1, sg7.1, Heap.size_push]
  rw [hsz] at zg8 T8 z8
  refine wpAny_pure ⟨_, rfl, ?_⟩
  show Q (.ref g5.objs.size) _
  rw [hsz]
  exact hQ g8 zg8 (up _ _ D.TOz TO5) (d1.at fun o e => up _ o D.i1z e) (d2.at fun o e => up _ o D.i2z e) T8 z8 fun c o e1 e2 e3 e4 e => up c o e1 (kg5 c o e1 e2 e3 e4 e)
theorem zipS_end {z TI TO i1 i2 l1 l2 : Addr} {k1 k2 : Nat} {xs ys : Array Value} {a b : Value} {Q : Fin → Shared → Prop} (hh : A.handled = none) (D : ZipApart z TI TO i1 i2 l1 l2)
    (hz : IsZipS s.heap z TI TO .none) (hTI : IsPair s.heap TI (.ref i1) (.ref i2)) (hTO : IsPair s.heap TO a b)
    (c1 : s.heap.IsListIter i1 l1 k1) (c2 : s.heap.IsListIter i2 l2 k2) (m1 : s.heap.IsList l1 xs) (m2 : s.heap.IsList l2 ys) (hx : xs[k1]? = none) (hy : ys[k2]? = none)
    (hE : ∀ g e, (∀ c o, c ≠ z → c ≠ TO → c ≠ i1 → c ≠ i2 → s.heap.get? c = some o → g.get? c = some o) → (∃ o, g.get? e = some o ∧ o.cls = .type "StopIteration") → E (.ref e) { s with heap := g }) :
    wpAny (model prog w) A (Builtin.«zip.__next__» ⟨[.ref z], []⟩) Q E s := by
  show wpAny _ _ (field (.ref z) 2 >>= _) _ _ _
  refine wpAny_bind (wpAny_field hz rfl (x := .bool true) rfl ?_)
  show wpAny _ _ (field (.ref z) 3 >>= _) _ _ _
  refine wpAny_bind (wpAny_field hz rfl (x := .ref TI) rfl (?_ : wpAny _ _ _ _ _ _))
  refine wpAny_bind (wpAny_seqItems hTI rfl (?_ : wpAny _ _ _ _ _ _))
  show wpAny _ _ (Builtin.SmallTypes.ownedTupleIsFree (.ref z) >>= _) _ E s
  refine wpAny_bind ?_
  unfold Builtin.SmallTypes.ownedTupleIsFree
  refine wpAny_bind (wpAny_field hz rfl (x := .none) rfl (wpAny_pure (?_ : wpAny _ _ _ _ _ _)))
  simp only [if_true]
  refine wpAny_bind (wpAny_rule ?_)
  refine wpAny_bind (wpAny_field hz rfl (x := .ref TO) rfl (?_ : wpAny _ _ _ _ _ _))
  refine wpAny_bind (wpAny_setField_rec hz (by simp) fun g1 zg1 sg1 => ?_)
  replace zg1 : IsZipS g1 z TI TO .ellipsis := zg1
  refine wpAny_bind ?_
  simp only [List.zipIdx_cons, List.zipIdx_nil, List.forIn_cons, List.forIn_nil] at *
  refine wpAny_bind (wpAny_bind (wpAny_onRaise ?_))
  show wpAny _ _ (Builtin.SmallTypes.nextOrEnd (.ref i1)) _ _ _
  refine nextOrEnd_end hh (c1.extBut sg1.extBut D.i1z) (m1.extBut sg1.extBut D.l1z) hx fun g2 sg2 => ?_
  have zg2 : IsZipS g2 z TI TO .ellipsis := sg2 _ _ D.i1z.symm zg1
  refine wpAny_bind (wpAny_setField_rec zg2 (by simp) fun g3 zg3 sg3 => ?_)
  have e2 : g3.IsListIter i2 l2 k2 := ((c2.extBut sg1.extBut D.i2z).extBut sg2 D.i12.symm).extBut sg3.extBut D.i2z
  have f2 : g3.IsList l2 ys := ((m2.extBut sg1.extBut D.l2z).extBut sg2 D.l2i1).extBut sg3.extBut D.l2z
  refine wpAny_bind ?_
  refine wpAny_bind ?_
  rw [show (List.drop 1 [Value.ref i1, Value.ref i2]).zipIdx 1 = [(Value.ref i2, 1)] from rfl, List.forIn_cons]
  refine wpAny_bind (wpAny_bind (nextOrEnd_end hh e2 f2 hy fun g4 sg4 => wpAny_pure ?_))
  dsimp only
  rw [List.forIn_nil]
  refine wpAny_pure ?_
  refine wpAny_bind (wpAny_rule ?_)
  unfold Builtin.SmallTypes.stopIteration
  refine wpAny_bind ?_
  simp only [newExc, newTuple] at *
  refine wpAny_bind (wpAny_newObj_type (?_ : wpAny _ _ _ _ _ _) (by size_fits))
  refine wpAny_bind (m := firstArgMember _ _) (wpAny_of_eq (a := Value.none) (by first | rfl | (simp only [firstArgMember] at *; rfl)) (?_ : wpAny _ _ _ _ _ _))
  refine wpAny_newObj_type (?_ : wpAny _ _ _ _ _ _) (by size_fits)
  simp only [raiseNew] at *
  refine wpAny_bind (wpAny_handled (?_ : wpAny _ _ _ _ _ _))
  rw [hh]
  refine wpAny_bind (wpAny_pure (wpAny_throw (?_ : E _ _)))
  refine hE _ _ (fun c o q1 q2 q3 q4 e => ?_) ⟨_, Heap.get?_push_size _ rfl, rfl⟩
  exact Heap.get?_push_of_some _ (Heap.get?_push_of_some _ (sg4 _ _ q4 (sg3.extBut _ _ q1 (sg2 _ _ q3 (sg1.extBut _ _ q1 e)))))
end
end PySem
namespace PySem
open PyProof.Rows
section
variable {prog : Program} {w : World} {A : Around} {E : Value → Shared → Prop} {s : Shared}
theorem pyNext_zipS_item {z TI TO i1 i2 l1 l2 : Addr} {k1 k2 : Nat} {xs ys : Array Value} {x y a b : Value} {Q : Option Value → Shared → Prop} (D : ZipApart z TI TO i1 i2 l1 l2)
    (hz : IsZipS s.heap z TI TO .none) (hTI : IsPair s.heap TI (.ref i1) (.ref i2)) (hTO : IsPair s.heap TO a b)
    (c1 : s.heap.IsListIter i1 l1 k1) (c2 : s.heap.IsListIter i2 l2 k2) (m1 : s.heap.IsList l1 xs) (m2 : s.heap.IsList l2 ys) (hx : xs[k1]? = some x) (hy : ys[k2]? = some y)
    (hQ : ∀ g, IsZipS g z TI TO (rawInt s.heap.objs.size) → IsPair g TO x y → g.IsListIter i1 l1 (k1 + 1) → g.IsListIter i2 l2 (k2 + 1) → IsPair g s.heap.objs.size x y → g.objs.size = s.heap.objs.size + 1 →
      (∀ c o, c ≠ z → c ≠ TO → c ≠ i1 → c ≠ i2 → s.heap.get? c = some o → g.get? c = some o) → Q (some (.ref s.heap.objs.size)) { s with heap := g }) : wpAny (model prog w) A (pyNext (.ref z)) Q E s := by
  have ty : s.TypeIs (.ref z) "zip" := ⟨_, hz, rfl⟩
  unfold pyNext
  exact wpAny_bind (wpAny_attempt (wpAny_callSpecial?_slot (name := Str.ofString "__next__") ty F.slot_zip_next (wpAny_call_entry F.slot_zip_next ty F.entry_zip_next
      (zipS_item D hz hTI hTO c1 c2 m1 m2 hx hy fun g a1 a2 a3 a4 a5 a6 a7 => wpAny_pure (hQ g a1 a2 a3 a4 a5 a6 a7)) (F.args_zip_next_1 _))))
theorem pyNext_zipS_end {z TI TO i1 i2 l1 l2 : Addr} {k1 k2 : Nat} {xs ys : Array Value} {a b : Value} {Q : Option Value → Shared → Prop} (hh : A.handled = none) (D : ZipApart z TI TO i1 i2 l1 l2)
    (hz : IsZipS s.heap z TI TO .none) (hTI : IsPair s.heap TI (.ref i1) (.ref i2)) (hTO : IsPair s.heap TO a b)
    (c1 : s.heap.IsListIter i1 l1 k1) (c2 : s.heap.IsListIter i2 l2 k2) (m1 : s.heap.IsList l1 xs) (m2 : s.heap.IsList l2 ys) (hx : xs[k1]? = none) (hy : ys[k2]? = none)
    (hQ : ∀ g, (∀ c o, c ≠ z → c ≠ TO → c ≠ i1 → c ≠ i2 → s.heap.get? c = some o → g.get? c = some o) → Q none { s with heap := g }) : wpAny (model prog w) A (pyNext (.ref z)) Q E s := by
  have ty : s.TypeIs (.ref z) "zip" := ⟨_, hz, rfl⟩
  unfold pyNext
  refine wpAny_bind (wpAny_attempt (wpAny_callSpecial?_slot (name := Str.ofString "__next__") ty F.slot_zip_next (wpAny_call_entry F.slot_zip_next ty F.entry_zip_next
    (zipS_end hh D hz hTI hTO c1 c2 m1 m2 hx hy fun g e hk he => ?_) (F.args_zip_next_1 _))))
  obtain ⟨o, ho, hc⟩ := he
  refine wpAny_bind (wpAny_isInstance (T := "StopIteration") (b := true) ⟨o, ho, hc⟩ isSubtype_stop (?_ : wpAny _ _ _ _ _ _))
  exact wpAny_pure (hQ g hk)
theorem letGo_zipS {elts : List Expr} {x1} {pos : Pos} {z TI TO T : Addr} {Q : Unit → Shared → Prop} (hz : IsZipS s.heap z TI TO (rawInt T))
    (hQ : ∀ g, IsZipS g z TI TO .none → Heap.SameBut z s.heap g → Q () { s with heap := g }) : wpAny (model prog w) A (letOwnedTupleGo (.Tuple elts x1 pos) (.ref z) (.ref T)) Q E s := by
  unfold letOwnedTupleGo
  refine wpAny_bind (wpAny_load hz ?_)
  show wpAny _ _ (if (["enumerate", "zip", "dict_itemiterator", "dict_reverseitemiterator", "odict_iterator", "itertools.zip_longest", "itertools.pairwise"].contains "zip" && (#[rawInt T, .bool false, .bool true, .ref TI, .ref TO] : Array Value)[0]? == some (rawInt T)) = true then _ else _) Q E s
  rw [if_pos (by simp)]
  refine wpAny_bind (wpAny_rule ?_)
  show wpAny _ _ (setField (.ref z) 0 .none) Q E s
  exact wpAny_setField_rec hz (by simp) fun g zg sg => hQ g zg sg
theorem pyIter_zipS {z TI TO : Addr} {f : Value} {Q : Value → Shared → Prop} (hz : IsZipS s.heap z TI TO f) (h : Q (.ref z) s) : wpAny (model prog w) A (pyIter (.ref z)) Q E s := by
  have ty : s.TypeIs (.ref z) "zip" := ⟨_, hz, rfl⟩
  refine wpAny_pyIter_slot ty F.slot_zip_iter (wpAny_call_entry F.slot_zip_iter ty F.entry_zip_iter (?_ : wpAny _ _ _ _ _ _) (F.args_zip_iter_1 _))
  show wpAny _ _ (ret (.ref z)) _ _ s
  exact wpAny_pure ⟨_, rfl, "zip", _, ty, F.slot_zip_next.lookup, h⟩
abbrev zipS5 (h : Heap) (l1 l2 : Addr) : Heap := (zipH4 h l1 l2).push { cls := .type "zip", data := .fields #[.none, .bool false, .bool true, .ref (zipH2 h l1 l2).objs.size, .ref (zipH3 h l1 l2).objs.size] }
theorem typeCall_zipS (a b c : Value) : checkTypeCall "zip" ⟨[a, b], [(Str.ofString "strict", c)]⟩ = pure () := by kernel_rfl
theorem newCall_zipS (a b c : Value) : checkBuiltinCall "zip.__new__" ⟨[.type "zip", a, b], [(Str.ofString "strict", c)]⟩ = pure () := by kernel_rfl
theorem args_oinit_zipS (o a b c : Value) : argsOk "object.__init__" ⟨[o, a, b], [(Str.ofString "strict", c)]⟩ := by unfold argsOk; kernel_rfl
set_option maxHeartbeats 1000000 in
theorem meets_zipS_new (l1 l2 : Addr) (xs ys : Array Value) :
    Meets (Builtin.«zip.__new__» ⟨[.type "zip", .ref l1, .ref l2], [(Str.ofString "strict", .bool true)]⟩) (fun _ R s => s.heap.IsList l1 xs ∧ s.heap.IsList l2 ys ∧ R (.ok (.ret (.ref (zipH4 s.heap l1 l2).objs.size))) { s with heap := zipS5 s.heap l1 l2 }) :=
  .of_wp fun prog w A R s h => by
    obtain ⟨hp, g, d, tk, os⟩ := s
    obtain ⟨m1, m2, h⟩ := h
    have hsub := sub_zip
    have L1 : Heap.IsList (Shared.heap ⟨hp, g, d, tk, os⟩) l1 xs := m1
    have L2 : Heap.IsList (Shared.heap ⟨hp.push { cls := .type "list_iterator", data := .fields #[.ref l1, .int 0 0] }, g, d, tk, os⟩) l2 ys := Heap.IsList.push m2 _
    have e2 : (Str.ofString "strict" != ("strict" : Str)) = false := by decide +kernel
    wp_walk using wpAny_pyIter_list L1, wpAny_pyIter_list L2
    exact ⟨_, rfl, h⟩
theorem call_zipS {l1 l2 : Addr} {xs ys : Array Value} {Q : Value → Shared → Prop} (m1 : s.heap.IsList l1 xs) (m2 : s.heap.IsList l2 ys)
    (h : ∀ g, IsZipS g (s.heap.objs.size + 4) (s.heap.objs.size + 2) (s.heap.objs.size + 3) .none → IsPair g (s.heap.objs.size + 2) (.ref s.heap.objs.size) (.ref (s.heap.objs.size + 1)) →
      IsPair g (s.heap.objs.size + 3) .none .none → g.IsListIter s.heap.objs.size l1 0 → g.IsListIter (s.heap.objs.size + 1) l2 0 → g.objs.size = s.heap.objs.size + 5 →
      (∀ c o, s.heap.get? c = some o → g.get? c = some o) → Q (.ref (s.heap.objs.size + 4)) { s with heap := g }) : wpAny (model prog w) A (call (.type "zip") [.ref l1, .ref l2] [(Str.ofString "strict", .bool true)]) Q E s := by
  refine callType_newKw F.called_zip (by decide) (typeCall_zipS _ _ _) (newCall_zipS _ _ _) (fun obj => args_oinit_zipS obj _ _ _) F.entry_zip_new (meets_zipS_new l1 l2 xs ys) ⟨m1, m2, ?_⟩
  have z1 : (zipH1 s.heap l1).objs.size = s.heap.objs.size + 1 := Heap.size_push _ _
  have z2 : (zipH2 s.heap l1 l2).objs.size = s.heap.objs.size + 2 := by rw [Heap.size_push, z1] <;> rfl
  have z3 : (zipH3 s.heap l1 l2).objs.size = s.heap.objs.size + 3 := by rw [Heap.size_push, z2] <;> rfl
  have z4 : (zipH4 s.heap l1 l2).objs.size = s.heap.objs.size + 4 := by rw [Heap.size_push, z3] <;> rfl
  have z5 : (zipS5 s.heap l1 l2).objs.size = s.heap.objs.size + 5 := by rw [Heap.size_push, z4]
  have g5 : (zipS5 s.heap l1 l2).get? (zipH4 s.heap l1 l2).objs.size = some _ := Heap.get?_push_size _ rfl
  have g4 : (zipS5 s.heap l1 l2).get? (zipH3 s.heap l1 l2).objs.size = some _ := Heap.get?_push_of_some _ (Heap.get?_push_size _ rfl)
  have g3 : (zipS5 s.heap l1 l2).get? (zipH2 s.heap l1 l2).objs.size = some _ := Heap.get?_push_of_some _ (Heap.get?_push_of_some _ (Heap.get?_push_size _ rfl))
  have g2 : (zipS5 s.heap l1 l2).get? (zipH1 s.heap l1).objs.size = some _ := Heap.get?_push_of_some _ (Heap.get?_push_of_some _ (Heap.get?_push_of_some _ (Heap.get?_push_size _ rfl)))
  have g1 : (zipS5 s.heap l1 l2).get? s.heap.objs.size = some _ := Heap.get?_push_of_some _ (Heap.get?_push_of_some _ (Heap.get?_push_of_some _ (Heap.get?_push_of_some _ (Heap.get?_push_size _ rfl))))
  show _ ∧ _
  rw [z2, z3, z4] at g5
  rw [z1, z2] at g3
  rw [z3] at g4
  rw [z1] at g2
  rw [z4]
  exact ⟨⟨_, g5, rfl⟩, h _ g5 g3 g4 ⟨_, g1, rfl, rfl⟩ ⟨_, g2, rfl, rfl⟩ z5 fun c o x => Heap.get?_push_of_some _ (Heap.get?_push_of_some _ (Heap.get?_push_of_some _ (Heap.get?_push_of_some _ (Heap.get?_push_of_some _ x))))⟩
end
section
variable {M : Model} {A : Around} {E : Value → Shared → Prop} {s : Shared} {env : Env}
theorem callWith_typeKw {pos : Pos} {T : String} {e : Expr} {rest : List Expr} {kws : List Keyword} {Q : Value → Shared → Prop}
    (h : wpAny M A (spliced (backTo pos (starEach (e :: rest) env))) (fun vs s1 => wpAny M A (evalAll ((backToKw pos (keywordEach kws env)).map (·.2)))
      (fun ks s2 => wpAny M A (call (.type T) vs (((backToKw pos (keywordEach kws env)).filterMap (·.1)).zip ks)) Q E s2) E s1) E s)
    (he : backTo pos (starEach (e :: rest) env) = (false, eval e env) :: backTo pos (starEach rest env)) (hp : (backTo pos (starEach (e :: rest) env)).any (·.1) = false)
    (ha : (backToKw pos (keywordEach kws env)).all (·.1.isSome) = true) (hk : (backToKw pos (keywordEach kws env)).any (·.1.isNone) = false) :
    wpAny M A (callWith pos (.type T) [] (backTo pos (starEach (e :: rest) env)) (backToKw pos (keywordEach kws env))) Q E s := by
  have h2 : wpAny M A (evalArgs (.type T) true (backTo pos (starEach (e :: rest) env)) (backToKw pos (keywordEach kws env))) (fun a s1 => wpAny M A (call (.type T) ([] ++ a.pos) a.kw) Q E s1) E s := by
    rw [he] at h ⊢
    exact evalArgs_kwB ha h
  unfold callWith
  refine wpAny_bind (wpAny_holding (wpAny_mono h2 (fun a s1 q1 => wpAny_bind (wpAny_standAt ?_)) fun _ _ x => x))
  simp only [hp, hk, Bool.or_false] at *
  refine wpAny_bind (wpAny_pure (?_ : wpAny _ _ _ _ _ _))
  exact wpAny_bind (wpAny_mono q1 (fun r s2 hr => wpAny_bind (wpAny_holding (wpAny_point (wpAny_pure hr)))) fun _ _ x => x)
end
end PySem
namespace Fv
open PySem PySem.Spec PyProof.Rows L2 Bm
theorem turn_zipS {P : Program} {w : World} {K : PySem.W.Frag} {elts : List Expr} {kk : Nat} {tpos : Pos} {a b z TI TO i1 i2 : Addr} {m : Nat} (D : ZipApart z TI TO i1 i2 a b) :
    Turn P w K (.Tuple elts kk tpos) ⟨(Itz K a b).go, (Itz K a b).yld, fun i H => ∃ xs ys : List V, SqL K H a xs ∧ SqL K H b ys ∧ xs.length ≤ i ∧ ys.length ≤ i⟩ [z, TI, TO, i1, i2] z (fun i h => IsZipS h z TI TO .none ∧ IsPair h TI (.ref i1) (.ref i2) ∧ (∃ x y, IsPair h TO x y) ∧ h.IsListIter i1 a i ∧ h.IsListIter i2 b i) where
  mem := by simp
  obj := fun i h st c hc => by
    obtain ⟨hz, hTI, ⟨x, y, hTO⟩, ⟨o1, e1, _, d1⟩, ⟨o2, e2, _, d2⟩⟩ := st
    have ee : c = z ∨ c = TI ∨ c = TO ∨ c = i1 ∨ c = i2 := by simpa using hc
    rcases ee with rfl | rfl | rfl | rfl | rfl
    · exact ⟨_, hz, fun v q => nomatch q⟩
    · exact ⟨_, hTI, fun v q => nomatch q⟩
    · exact ⟨_, hTO, fun v q => nomatch q⟩
    · exact ⟨o1, e1, fun v q => by rw [d1] at q; cases q⟩
    · exact ⟨o2, e2, fun v q => by rw [d2] at q; cases q⟩
  keep := fun i h h' st k => by
    obtain ⟨hz, hTI, ⟨x, y, hTO⟩, h1, h2⟩ := st
    exact ⟨k z (by simp) _ hz, k TI (by simp) _ hTI, ⟨x, y, k TO (by simp) _ hTO⟩, h1.at (fun o q => k i1 (by simp) o q), h2.at (fun o q => k i2 (by simp) o q)⟩
  item := by
    intro X hP hw hK hc i pins s σ H E I hf st hg
    subst hP hw hK
    obtain ⟨hz, hTI, ⟨x0, y0, hTO⟩, h1, h2⟩ := st
    obtain ⟨xs, ys, x, y, hqx, hqy, hx, hy⟩ := hg
    obtain ⟨its, rv, p, _⟩ := I.list hqx
    obtain ⟨its2, rv2, p2, _⟩ := I.list hqy
    obtain ⟨u, hu, ru⟩ := rv.get hx
    obtain ⟨u2, hu2, ru2⟩ := rv2.get hy
    have zl : z < s.heap.objs.size := Heap.lt_size hz
    refine pyNext_zipS_item D hz hTI hTO h1 h2 p.isList p2.isList (x := u) (y := u2) (by simpa using hu) (by simpa using hu2) fun g zg TOg h1g h2g hT hsz hk => ?_
    refine ⟨_, rfl, letGo_zipS (s := { s with heap := g }) zg fun g2 zg2 sb => ?_⟩
    have T2 : g2.get? s.heap.objs.size = some { cls := .type "tuple", data := .seq #[u, u2] } := (sb.2 _ (Nat.ne_of_gt zl)).trans hT
    have new : ObjOk X.prog X.w (upd H s.heap.objs.size (.tup [x, y])) g2 s.heap.objs.size (.tup [x, y]) := ⟨(show 2 ≤ sizeLine by decide), [u, u2], .cons ru (.cons ru2 .nil), ⟨_, T2, rfl, _, rfl⟩⟩
    have I1 : Inv X pins σ (upd H s.heap.objs.size (.tup [x, y])) { s with heap := g2 } :=
      I.turnedNew (t' := s.toks) (ch := [z, TI, TO, i1, i2]) (fun c o hb q => (sb.2 c (fun e => hb (by simp [e]))).trans (hk c o (fun e => hb (by simp [e])) (fun e => hb (by simp [e])) (fun e => hb (by simp [e])) (fun e => hb (by simp [e])) q)) hf (Nat.le_refl _) new
    refine ⟨.ref s.heap.objs.size, _, I1, rfl, ⟨_, x, y, rfl, I.hok.fresh (Nat.le_refl _), rfl, fun l hl => by rw [I.list_inj hl hqx]; exact hx, fun l hl => by rw [I.list_inj hl hqy]; exact hy⟩, ⟨zg2, ?_, ⟨u, u2, ?_⟩, ?_, ?_⟩, fun c cm => ?_⟩
    · exact (sb.2 _ D.TIz).trans (hk _ _ D.TIz D.TITO D.TIi1 D.TIi2 hTI)
    · exact (sb.2 _ D.TOz).trans TOg
    · exact h1g.at (fun o q => (sb.2 _ D.i1z).trans q)
    · exact h2g.at (fun o q => (sb.2 _ D.i2z).trans q)
    · have lt : c < s.heap.objs.size := by
        have ee : c = z ∨ c = TI ∨ c = TO ∨ c = i1 ∨ c = i2 := by simpa using cm
        rcases ee with e | e | e | e | e
        · rw [e]
          exact zl
        · rw [e]
          exact Heap.lt_size hTI
        · rw [e]
          exact Heap.lt_size hTO
        · rw [e]
          obtain ⟨_, q, _⟩ := h1
          exact Heap.lt_size q
        · rw [e]
          obtain ⟨_, q, _⟩ := h2
          exact Heap.lt_size q
      rw [upd_ne (Nat.ne_of_lt lt)]
      exact (hf c cm).1
  done := by
    intro X hP hw hK hc i pins s σ H E I hf st hg
    subst hP hw hK
    obtain ⟨hz, hTI, ⟨x0, y0, hTO⟩, h1, h2⟩ := st
    obtain ⟨xs, ys, hqx, hqy, n1, n2⟩ := hg
    obtain ⟨its, rv, p, _⟩ := I.list hqx
    obtain ⟨its2, rv2, p2, _⟩ := I.list hqy
    have l1 := rv.length
    have l2 := rv2.length
    exact pyNext_zipS_end (I.ok.hd hc) D hz hTI hTO h1 h2 p.isList p2.isList (by simp; omega) (by simp; omega) fun g hk => ⟨rfl, I.turnedL (t' := s.toks) (ch := [z, TI, TO, i1, i2]) (fun c o hb q =>
      hk c o (fun e => hb (by simp [e])) (fun e => hb (by simp [e])) (fun e => hb (by simp [e])) (fun e => hb (by simp [e])) q) hf⟩
  self := fun A i s Q E st h => pyIter_zipS st.1 h
def ItzS (K : PySem.W.Frag) (a b : Addr) : It := ⟨(Itz K a b).go, (Itz K a b).yld, fun i H => ∃ xs ys : List V, SqL K H a xs ∧ SqL K H b ys ∧ xs.length ≤ i ∧ ys.length ≤ i⟩
def iZipS (K : PySem.W.Frag) (ta : TA) : TI := fun σ H R => ta σ H fun vs H1 => ∃ a b xs ys, vs = [.ref a, .ref b] ∧ SqL K H1 a xs ∧ SqL K H1 b ys ∧ R (ItzS K a b) H1
theorem pi_zipS {X : Cx} {e e2 : Expr} {ta : TA} {p pos tpos kp vp : Pos} {elts : List Expr} {kk j : Nat} (hg : Gl X "zip") (hm : X.mg "zip" = none) (ha : PA X [e, e2] ta)
    (hs : backTo pos (starEach [e, e2] X.env) = (false, eval e X.env) :: backTo pos (starEach [e2] X.env) := by rfl) (hpl : (backTo pos (starEach [e, e2] X.env)).any (·.1) = false := by rfl) :
    PI X (.Tuple elts kk tpos) (.Call (.Name "zip" p) [e, e2] [⟨some "strict", .Constant (.bool true) j vp, kp⟩] pos) (iZipS X.K ta) := by
  refine ⟨fun pins s σ H R I h => ?_⟩
  refine wpAny_Call_Name_kw (ld_blt I hg hm PyProof.Rows.boot_zip (callWith_typeKw (thn (ha.run pos pins s σ H _ I h) fun us s1 ⟨vs, H1, I1, r1, q1⟩ => ?_) hs hpl (by rfl) (by rfl)))
  obtain ⟨a, b, xs, ys, ex, hqx, hqy, q⟩ := q1
  subst ex
  refine kws_cons (Constant_bool (kws_nil ?_))
  cases r1 with
  | cons r rr =>
    cases rr with
    | cons r2 rr =>
      cases rr
      cases r
      cases r2
      obtain ⟨its, rv, p1, _⟩ := I1.list hqx
      obtain ⟨its2, rv2, p2, _⟩ := I1.list hqy
      have la : a < s1.heap.objs.size := p1.lt
      have lb : b < s1.heap.objs.size := p2.lt
      refine call_zipS p1.isList p2.isList fun g hz hTI hTO h1 h2 hsz hk => pyIter_zipS hz ?_
      have I2 : Inv X pins σ H1 { s1 with heap := g } := I1.kept (t' := s1.toks) hk
      refine ⟨s1.heap.objs.size + 4, [s1.heap.objs.size + 4, s1.heap.objs.size + 2, s1.heap.objs.size + 3, s1.heap.objs.size, s1.heap.objs.size + 1], _, _, H1, rfl, I2, turn_zipS (m := 0) (PySem.W.ktu_apart s1.heap.objs.size a b la lb), ⟨hz, hTI, ⟨_, _, hTO⟩, h1, h2⟩, fun c cm => ?_, q⟩
      have ee : c = s1.heap.objs.size + 4 ∨ c = s1.heap.objs.size + 2 ∨ c = s1.heap.objs.size + 3 ∨ c = s1.heap.objs.size ∨ c = s1.heap.objs.size + 1 := by simpa using cm
      have le : s1.heap.objs.size ≤ c := by
        rcases ee with e | e | e | e | e
        · rw [e]
          exact Nat.le_add_right _ _
        · rw [e]
          exact Nat.le_add_right _ _
        · rw [e]
          exact Nat.le_add_right _ _
        · rw [e]
          exact Nat.le_refl _
        · rw [e]
          exact Nat.le_add_right _ _
      exact I1.fpOk le (I1.hok.fresh le)
def zipIS (f : M (List D)) : M (List D) := bnd f fun ds => lft fun _ => match ds with
  | [.lst xs, .lst ys] => if xs.length = ys.length then some (zipL xs ys) else none
  | _ => none
theorem itZS {K : PySem.W.Frag} {G : Hp} {ι : List Addr} {a b : Addr} {vs us : List V} {xs ys : List D} (hq : SqL K G a vs) (hp : SqL K G b us) (r : RDs K G ι xs vs) (t : RDs K G ι ys us) (e : xs.length = ys.length) : ItF K G ι (ItzS K a b) (zipL xs ys) := by
  have base := itZL hq hp r t
  refine ⟨base.go, fun G' ι' H h u s => ⟨vs, us, s.s.seq (u.g.seq hq), s.s.seq (u.g.seq hp), ?_, ?_⟩⟩
  · rw [r.1]
    unfold zipL
    simp
    omega
  · rw [t.1]
    unfold zipL
    simp
    omega
theorem i_zipS {X : Cx} {C : Ct} {tg it : Expr} {f : M (List D)} (p : PI X tg it (iZipS C.K (tFA C f))) : PI X tg it (tFI C (zipIS f)) := imI p fun σ H R h => by
  obtain ⟨G, ι, en, k, h⟩ := h
  refine ⟨G, ι, en, k, PX.imp h.bnd fun ds e1 G1 ι1 H1 u1 k1 q1 vs r => ?_⟩
  obtain ⟨xs, hd, q⟩ := q1.lft
  split at hd
  · rename_i as bs
    split at hd
    · rename_i hl
      cases hd
      obtain ⟨v, w, rfl, r1, r2⟩ := r.two_of
      cases r1 with
      | lst h1 l1 e1 =>
        cases r2 with
        | lst h2 l2 e2 =>
          exact ⟨_, _, _, _, rfl, SqL.of (k1.hs.s _ _ h1), SqL.of (k1.hs.s _ _ h2), q.now k1 _ (itZS (SqL.of h1) (SqL.of h2) ⟨l1, e1⟩ ⟨l2, e2⟩ hl)⟩
    · cases hd
  · cases hd
/-! ### index of a text in a tuple of the module -/
def idxS (z : Str) : List Str → Option Nat
  | [] => none
  | x :: xs => if x = z then some 0 else (idxS z xs).map (· + 1)
theorem idxS_ok {z : Str} : ∀ {ys : List Str} {j : Nat}, idxS z ys = some j → ys[j]? = some z ∧ ∀ m, m < j → ys[m]? ≠ some z
  | [], j, e => by cases e
  | x :: xs, j, e => by
    unfold idxS at e
    split at e
    · rename_i c
      cases e
      exact ⟨by rw [c]; rfl, fun m hm => by omega⟩
    · rename_i c
      obtain ⟨i, e1, rfl⟩ := Option.map_eq_some_iff.mp e
      obtain ⟨h1, h2⟩ := idxS_ok e1
      refine ⟨by simpa using h1, fun m hm => ?_⟩
      cases m with
      | zero => simpa using c
      | succ m => simpa using h2 m (by omega)
def tidxM (ys : List Str) (fa : M (List D)) : M D := bnd fa fun ds => lft fun _ => match ds with
  | [.str z] => (idxS z ys).map fun j => .int (j : Nat)
  | _ => none
theorem v_tindex {X : Cx} {C : Ct} {e : Expr} {x : Str} {ys : List Str} {fa : M (List D)} (hk : ∃ o, C.K.lookup (He.ga C.K x) = some o ∧ o.cls = .type "tuple" ∧ o.dict = none) (ht : ∀ H, SqT C.K H (He.ga C.K x) (ys.map V.str))
    (p : PE X e (tBM C.K "tuple" (fun x xs H Q => ∃ p, ∃ ys : List Str, ∃ z j, x = .ref p ∧ xs = [.str z] ∧ SqT C.K H p (ys.map V.str) ∧ ys[j]? = some z ∧ (∀ m, m < j → ys[m]? ≠ some z) ∧ Q (.int (j : Nat)) H) (tC (.ref (He.ga C.K x))) (tFA C fa))) : PE X e (tF C (tidxM ys fa)) := imE p fun σ H Q h => by
  obtain ⟨G, ι, en, k, h⟩ := h
  refine ⟨.inr (.inl ⟨rfl, hk⟩), G, ι, en, k, PX.imp h.bnd fun ds e1 G1 ι1 H1 u1 k1 q1 vs r => ?_⟩
  obtain ⟨d, hd, q⟩ := q1.lft
  split at hd
  · rename_i z
    obtain ⟨j, e1, rfl⟩ := Option.map_eq_some_iff.mp hd
    obtain ⟨v, rfl, rv⟩ := r.one_of
    cases rv
    obtain ⟨a1, a2⟩ := idxS_ok e1
    exact ⟨_, ys, z, j, rfl, rfl, ht _, a1, a2, q.now k1 _ (.int _)⟩
  · cases hd
end Fv


set_option Elab.async false
set_option linter.all false
set_option maxRecDepth 100000
set_option maxHeartbeats 4000000
set_option autoImplicit false
namespace Fv
open PySem PySem.Spec PyProof.Rows L2 Bm
/-! ### sum of a tuple -/
def rSumT (K : PySem.W.Frag) : List V → Hp → VK → Prop := fun vs H Q => ∃ (a : Addr) (ns : List Int), vs = [V.ref a] ∧ SqT K H a (ns.map V.int) ∧ Q (.int ns.sum) H
theorem cr_sumT {X : Cx} (hc : X.calm = true) : CallR X (.builtin "sum") (rSumT X.K) := by
  intro pins s σ H vs us Q I r h
  obtain ⟨a, ns, rfl, hs, q⟩ := h
  obtain ⟨its, rv, hl, _⟩ := I.tuple hs
  rw [Vals.ref1 r]
  have hi := rv.ints
  have hl' : s.heap.IsTuple a its.toArray := hl
  obtain ⟨xs, hx⟩ := hi.allInts.items
  have hn : numsOf its.toArray.toList = ns := by rw [show its.toArray.toList = its from rfl, hi.numsOf]
  rw [hx] at hl' hn
  rw [nums_intItems] at hn
  refine PySem.W.ktm_sumG (I.ok.hd hc) hl' fun h' tk t' hk => ?_
  rw [preSum_eq, List.take_of_length_le (by simp), hn]
  exact ⟨.int _, H, I.kept hk, ⟨_, rfl⟩, q⟩
theorem cr_sumA {X : Cx} (hc : X.calm = true) : CallR X (.builtin "sum") (fun vs H Q => rSum X.K vs H Q ∨ rSumT X.K vs H Q) := by
  intro pins s σ H vs us Q I r h
  cases h with
  | inl h => exact cr_sum hc pins s σ H vs us Q I r h
  | inr h => exact cr_sumT hc pins s σ H vs us Q I r h
def sumA (h : List Ob) : List D → Option D
  | [.tup xs] => (intsOf xs).map fun ns => .int ns.sum
  | [.lst xs] => (intsOf xs).map fun ns => .int ns.sum
  | [d] => sumD h [d]
  | _ => none
theorem s_sumA {K : PySem.W.Frag} : OpN K (fun vs H Q => rSum K vs H Q ∨ rSumT K vs H Q) sumA := by
  intro G ι H h xs d vs Q s rs e q
  unfold sumA at e
  split at e
  · rename_i ys
    obtain ⟨v, rfl, r⟩ := rs.one_of
    obtain ⟨ns, e1, rfl⟩ := Option.map_eq_some_iff.mp e
    cases r with
    | tup hh l ee =>
      rename_i a us
      have h2 := ints_rd ⟨l, ee⟩ e1
      subst h2
      exact .inr ⟨_, ns, rfl, sqT_at (fun o z => s.s _ o z) hh, q G H _ (Same.refl _) (Same.refl _) s (.int _)⟩
  · rename_i ys
    exact .inl (s_sum G ι H h _ d vs Q s rs (by unfold sumD; exact e) q)
  · exact .inl (s_sum G ι H h _ d vs Q s rs e q)
  · cases e
end Fv


set_option Elab.async false
set_option linter.all false
set_option maxRecDepth 100000
set_option maxHeartbeats 4000000
set_option autoImplicit false
namespace Fv
open PySem PySem.Spec PyProof.Rows L2 Bm
/-! ### the law itself -/
def spLaw (K : PySem.W.Frag) : Sp := fun vs H Q _ => ∃ (sc : Addr) (ns : List Int), vs = [.ref sc] ∧ SqL K H sc (ns.map V.int) ∧ ns.length ≤ 63 ∧ H (He.cT K ("law", none)).2 = some (.tbl #[]) ∧ ∀ H', Q (.bl true) H'
open Classical in
noncomputable def G0 (H : Hp) (sc : Addr) (vs : List V) : Hp := fun a => if a = sc ∧ Rd H sc (.lst vs) then H a else none
theorem rd_ints {K : PySem.W.Frag} {G : Hp} {ι : List Addr} (ns : List Int) : RDs K G ι (ns.map D.int) (ns.map V.int) := by
  induction ns with
  | nil => exact .nil
  | cons x xs ih => exact .cons (.int x) ih
theorem hs_start {K : PySem.W.Frag} {H : Hp} {sc : Addr} {vs : List V} (h : SqL K H sc vs) : Hs K (G0 H sc vs) [] H [] ∧ SqL K (G0 H sc vs) sc vs := by
  refine ⟨⟨fun a o e => ?_, .nil, rfl, (fun a ha => nomatch ha), fun a ps e => ?_, (fun k a o hk => by simp at hk)⟩, ?_⟩
  · unfold G0 at e
    split at e
    · exact e
    · cases e
  · unfold G0 at e
    split at e
    · rename_i c
      obtain ⟨rfl, c⟩ := c
      rcases c with c | ⟨o, c⟩
      · rw [c] at e
        cases e
      · rw [c] at e
        cases e
    · cases e
  · rcases h with h | h
    · have e : G0 H sc vs sc = H sc := by
        unfold G0
        rw [if_pos ⟨rfl, h⟩]
      rcases h with h | ⟨o, h⟩
      · exact .inl (.inl (e.trans h))
      · exact .inl (.inr ⟨o, e.trans h⟩)
    · exact .inr h
theorem law_ok {P : Program} {w : World} {K : PySem.W.Frag} {mg : Str → Option Value} {base : Heap} {params : Arguments} {body : List Stmt} {scope : Scope} {fd : FuncData} {N : List Str} {k : Nat} {b : M Fl} {Tb : List (Addr × Str)}
    (F : FunD K "law" "law" params body scope [] [] (He.fAd K ("law", none)) fd) (S : FnScope N ["_law_script"] scope) (htb : ∀ H : Hp, H (He.cT K ("law", none)).2 = some (.tbl #[]) → LamX.Tabs Tb H)
    (hbody : ∀ (A : Around) (outer : List Env) (s : Shared) (H : Hp) (E : XK), Room k (A.deeper (envOfC "law" scope s.heap.objs.size (He.fAd K ("law", none)) (.ref (He.codeOf K ("law", none))))) →
      PSs (cxOf L2.CX0 P w K mg base N "law" scope (He.fAd K ("law", none)) (.ref (He.codeOf K ("law", none))) A outer s H E) body (tFS ⟨K, Tb, fun _ _ _ _ => False⟩ b))
    (hF : ∀ ns : List Int, ns.length ≤ 63 → ∃ h', defF N.length b [.scr (ns.map D.int)] [] = .ok (.bl true) h') : FnOk P w K mg base L2.CX0 (k + 1) (He.fAd K ("law", none)) fd ["_law_script"] (spLaw K) := by
  refine okC ("law", none) F S (fun vs H Q E h => ?_) (fun A outer s H vs Q E hr h => ?_)
  · obtain ⟨sc, ns, rfl, _⟩ := h
    rfl
  · obtain ⟨sc, ns, rfl, hS, hl, hT, q⟩ := h
    obtain ⟨h1, h2⟩ := hs_start hS
    obtain ⟨h', e⟩ := hF ns hl
    have r : RDs K (G0 H sc (ns.map V.int)) [] [.scr (ns.map D.int)] [.ref sc] := .one (.scr h2 (rd_ints (K := K) (G := G0 H sc (ns.map V.int)) (ι := []) ns).1 (rd_ints ns).2)
    refine ⟨_, hbody A outer s H E hr, _, [], ⟨start0 N.length [.scr (ns.map D.int)], []⟩, ⟨h1, sls_start r, htb H hT⟩, def_end (C := ⟨K, Tb, fun _ _ _ _ => False⟩) (E := fun _ _ _ => False) (fun _ _ _ _ z => z) ?_⟩
    rw [e]
    intro G' ι' H' v u s t rv
    cases rv
    exact q H'
end Fv


set_option Elab.async false
set_option linter.all false
set_option maxRecDepth 100000
set_option maxHeartbeats 4000000
set_option autoImplicit false
/-! ### rules by which the functions are reckoned -/
namespace Fv
open PySem PySem.Spec PyProof.Rows L2 Bm
section
variable {α β : Type} {e : En} {h : List Ob}
@[simp] theorem x_bnd (f : M α) (g : α → M β) (e : En) : bnd f g e = (match f e with
  | .ok a e' => g a e'
  | .ex x fs e' => .ex x fs e'
  | .stuck => .stuck) := rfl
@[simp] theorem x_ret (a : α) (e : En) : Fv.ret a e = .ok a e := rfl
@[simp] theorem x_eV (i : Nat) (e : En) : eV i e = (match e.ρ[i]? with
  | some (some d) => .ok d e
  | _ => .stuck) := rfl
@[simp] theorem x_lft (o : List Ob → Option α) (e : En) : lft o e = (match o e.h with
  | some d => .ok d e
  | none => .stuck) := rfl
@[simp] theorem x_e2 (g : List Ob → D → D → Option D) (fa fb : M D) (e : En) : e2 g fa fb e = bnd fa (fun x => bnd fb fun y => lft fun h => g h x y) e := rfl
@[simp] theorem x_bM (f : M D) (e : En) : bM f e = (match f e with
  | .ok (.bl b) e' => .ok b e'
  | .ok _ _ => .stuck
  | .ex x fs e' => .ex x fs e'
  | .stuck => .stuck) := by
  unfold bM bnd
  cases f e with
  | ok d e' => cases d <;> rfl
  | ex x fs e' => rfl
  | stuck => rfl
@[simp] theorem x_andM (f g : M Bool) (e : En) : andM f g e = bnd f (fun b => if b then g else Fv.ret false) e := rfl
@[simp] theorem x_orM (f g : M Bool) (e : En) : orM f g e = bnd f (fun b => if b then Fv.ret true else g) e := rfl
@[simp] theorem x_notM (f : M Bool) (e : En) : notM f e = bnd f (fun b => Fv.ret (!b)) e := rfl
@[simp] theorem x_andV (f g : M D) (e : En) : andV f g e = bnd (bM f) (fun b => if b then g else Fv.ret (.bl false)) e := rfl
@[simp] theorem x_orV (f g : M D) (e : En) : orV f g e = bnd (bM f) (fun b => if b then Fv.ret (.bl true) else g) e := rfl
@[simp] theorem x_notV (f : M D) (e : En) : notV f e = bnd (bM f) (fun b => Fv.ret (.bl (!b))) e := rfl
@[simp] theorem x_ifM (c : M Bool) (f g : M D) (e : En) : ifM c f g e = bnd c (fun b => if b then f else g) e := rfl
@[simp] theorem x_tIfB (c f g : M Bool) (e : En) : tIfB c f g e = bnd c (fun b => if b then f else g) e := rfl
@[simp] theorem x_nilM (e : En) : nilM e = .ok [] e := rfl
@[simp] theorem x_consM (f : M D) (g : M (List D)) (e : En) : consM f g e = bnd f (fun x => bnd g fun xs => Fv.ret (x :: xs)) e := rfl
@[simp] theorem x_tupM (f : M (List D)) (e : En) : tupM f e = bnd f (fun ds => lft fun _ => if ds.length ≤ 1000 then some (.tup ds) else none) e := rfl
@[simp] theorem x_lstM (f : M (List D)) (e : En) : lstM f e = bnd f (fun ds => lft fun _ => if ds.length ≤ 1000 then some (.lst ds) else none) e := rfl
@[simp] theorem x_frzM (f : M Ob) (e : En) : frzM f e = (match f e with
  | .ok (.lst xs) e' => .ok (.lst xs) e'
  | .ok (.dic ks ds) e' => .ok (.dic ks ds) e'
  | .ok (.ins _ _) _ => .stuck
  | .ok (.td _ _) _ => .stuck
  | .ex x fs e' => .ex x fs e'
  | .stuck => .stuck) := by
  unfold frzM bnd
  cases f e with
  | ok d e' => cases d <;> rfl
  | ex x fs e' => rfl
  | stuck => rfl
@[simp] theorem x_pubM (f : M Ob) (e : En) : pubM f e = bnd f (fun o e => .ok (.ref e.h.length) ⟨e.ρ, e.h ++ [o]⟩) e := rfl
@[simp] theorem x_cN (g : List Ob → List D → Option D) (f : M (List D)) (e : En) : cN g f e = bnd f (fun ds => lft fun h => g h ds) e := rfl
@[simp] theorem x_cO (g : List Ob → List D → Option Ob) (f : M (List D)) (e : En) : cO g f e = bnd f (fun ds => lft fun h => g h ds) e := rfl
@[simp] theorem x_negM (f : M D) (e : En) : negM f e = bnd f (fun d => lft fun _ => match d with
  | .int i => some (.int (-i))
  | _ => none) e := rfl
@[simp] theorem x_chM (g g' : List Ob → D → D → Option D) (fa fb fc : M D) (e : En) : chM g g' fa fb fc e = bnd fa (fun x => bnd fb fun y => bnd (bM (lft fun h => g h x y)) fun b => if b then bnd fc fun z => lft fun h => g' h y z else Fv.ret (.bl false)) e := rfl
@[simp] theorem x_slM (fx : M D) (fl fh : M (Option Int)) (e : En) : slM fx fl fh e = bnd fx (fun x => bnd fl fun lo => bnd fh fun hi => lft fun h => slD h x lo hi) e := rfl
@[simp] theorem x_prt0 (e : En) : prt none e = .ok none e := rfl
@[simp] theorem x_prt1 (f : M D) (e : En) : prt (some f) e = bnd f (fun d => lft fun _ => match d with
  | .int i => some (some i)
  | _ => none) e := rfl
@[simp] theorem x_seqM (f g : M Fl) (e : En) : seqM f g e = (match f e with
  | .ok .nx e' => g e'
  | r => r) := rfl
@[simp] theorem x_exprM (f : M D) (e : En) : exprM f e = bnd f (fun _ => Fv.ret .nx) e := rfl
@[simp] theorem x_retM (f : M D) (e : En) : retM f e = bnd f (fun d => Fv.ret (.rt d)) e := rfl
@[simp] theorem x_putS (i : Nat) (d : D) (e : En) : putS i d e = some ⟨e.ρ.set i (some d), e.h⟩ := rfl
@[simp] theorem x_setM (f : M D) (b : D → En → Option En) (e : En) : setM f b e = bnd f (fun d e => match b d e with
  | some e' => .ok .nx e'
  | none => .stuck) e := rfl
@[simp] theorem x_ifS (c : M Bool) (f g : M Fl) (e : En) : ifS c f g e = bnd c (fun b => if b then f else g) e := rfl
@[simp] theorem x_parM (i j : Nat) (f : M (List D)) (e : En) : parM i j f e = bnd f (fun ds e => match ds with
  | [x, y] => .ok .nx ⟨(e.ρ.set i (some x)).set j (some y), e.h⟩
  | _ => .stuck) e := rfl
@[simp] theorem x_parM3 (i j l : Nat) (f : M (List D)) (e : En) : parM3 i j l f e = bnd f (fun ds e => match ds with
  | [x, y, z] => .ok .nx ⟨((e.ρ.set i (some x)).set j (some y)).set l (some z), e.h⟩
  | _ => .stuck) e := rfl
@[simp] theorem x_augM (i : Nat) (g : List Ob → D → D → Option D) (f : M D) (e : En) : augM i g f e = bnd (eV i) (fun x => bnd f fun y => bnd (lft fun h => g h x y) fun d e => .ok .nx ⟨e.ρ.set i (some d), e.h⟩) e := rfl
@[simp] theorem x_callM (Φ : Fun) (dds : List D) (fa : M (List D)) (e : En) : callM Φ dds fa e = bnd fa (fun ds e => match Φ (ds ++ dds) e.h with
  | .ok d h' => .ok d ⟨e.ρ, h'⟩
  | .ex x fs h' => .ex x fs ⟨e.ρ, h'⟩
  | .stuck => .stuck) e := rfl
@[simp] theorem x_setI (f fo fi : M D) (e : En) : setI f fo fi e = bnd f (fun v => bnd fo fun o => bnd fi fun i e => match setItem e.h o i v with
  | some h' => .ok .nx ⟨e.ρ, h'⟩
  | none => .stuck) e := rfl
@[simp] theorem x_fldM (cs : List Str) (f : Str) (fo : M D) (e : En) : fldM cs f fo e = bnd fo (fun x => lft fun h => match insOf h x with
  | some (c', fs) => if c' ∈ cs then fs.lookup f else none
  | none => none) e := rfl
@[simp] theorem x_setF (cs : List Str) (f : Str) (fo fv : M D) (e : En) : setF cs f fo fv e = bnd fv (fun d => bnd fo fun x e => match setFld e.h cs f x d with
  | some h' => .ok .nx ⟨e.ρ, h'⟩
  | none => .stuck) e := rfl
@[simp] theorem x_raiseM (x : Str) (e : En) : raiseM x e = .ex x [] e := rfl
@[simp] theorem x_raiseN (x : Str) (f : M (List D)) (e : En) : raiseN x f e = bnd f (fun ds e => match ds with
  | [d] => .ex x [("number", d)] e
  | _ => .stuck) e := rfl
@[simp] theorem x_methM (cs : List Str) (m : Str) (Φ : Str → Fun) (dds : List D) (fo : M D) (fa : M (List D)) (e : En) : methM cs m Φ dds fo fa e = bnd fo (fun x => bnd (lft fun h => match insOf h x with
    | some (c, fs) => if c ∈ cs ∧ fs.lookup m = none then some c else none
    | none => none) fun c => bnd fa fun ds e => match Φ c (x :: (ds ++ dds)) e.h with
  | .ok d h' => .ok d ⟨e.ρ, h'⟩
  | .ex x fs h' => .ex x fs ⟨e.ρ, h'⟩
  | .stuck => .stuck) e := rfl
@[simp] theorem x_mnM (T : String) (g : List Ob → D → List D → Option D) (fo : M D) (fa : M (List D)) (e : En) : mnM T g fo fa e = bnd fo (fun x => bnd (lft fun h => if tyD h x = some T then some () else none) fun _ => bnd fa fun ds => lft fun h => g h x ds) e := rfl
@[simp] theorem x_tidxM (ys : List Str) (fa : M (List D)) (e : En) : tidxM ys fa e = bnd fa (fun ds => lft fun _ => match ds with
  | [.str z] => (idxS z ys).map fun j => .int (j : Nat)
  | _ => none) e := rfl
@[simp] theorem x_forM (fi : M (List D)) (b : D → En → Option En) (body : M Fl) (e : En) : forM fi b body e = bnd fi (fun ds => forL b body ds) e := rfl
@[simp] theorem x_seqI (f : M D) (e : En) : seqI f e = bnd f (fun d => lft fun _ => stayOf d) e := rfl
@[simp] theorem x_rng1 (f : M (List D)) (e : En) : rng1 f e = bnd f (fun ds => lft fun _ => match ds with
  | [.int j] => if -(2 ^ 62) ≤ j ∧ j < 2 ^ 62 then some (rangeL 0 j.toNat) else none
  | _ => none) e := rfl
@[simp] theorem x_zipI (f : M (List D)) (e : En) : zipI f e = bnd f (fun ds => lft fun _ => match ds with
  | [.lst xs, .lst ys] => some (zipL xs ys)
  | _ => none) e := rfl
@[simp] theorem x_zipIS (f : M (List D)) (e : En) : zipIS f e = bnd f (fun ds => lft fun _ => match ds with
  | [.lst xs, .lst ys] => if xs.length = ys.length then some (zipL xs ys) else none
  | _ => none) e := rfl
@[simp] theorem x_start0 (n : Nat) (ds : List D) : start0 n ds = ds.map some ++ List.replicate (n - ds.length) none := rfl
@[simp] theorem x_defF (n : Nat) (f : M Fl) (ds : List D) (h : List Ob) : defF n f ds h = (match f ⟨start0 n ds, h⟩ with
  | .ok (.rt d) e => .ok d e.h
  | .ok .nx e => .ok .non e.h
  | .ex x fs e => .ex x fs e.h
  | _ => .stuck) := by
  unfold defF
  cases f ⟨start0 n ds, h⟩ with
  | ok a e => cases a <;> rfl
  | ex x fs e => rfl
  | stuck => rfl
variable (i j : Int) (a b : Str) (xs ys : List D) (x y : D)
@[simp] theorem x_add1 : addD h (.int i) (.int j) = some (.int (i + j)) := rfl
@[simp] theorem x_add2 : addD h (.str a) (.str b) = if a.length + b.length ≤ sizeLine then some (.str (a ++ b)) else none := rfl
@[simp] theorem x_add3 : addD h (.tup xs) (.tup ys) = if xs.length + ys.length ≤ sizeLine then some (.tup (xs ++ ys)) else none := rfl
@[simp] theorem x_add4 : addD h (.lst xs) (.lst ys) = if xs.length + ys.length ≤ sizeLine then some (.lst (xs ++ ys)) else none := rfl
@[simp] theorem x_addI : addI h (.int i) (.int j) = some (.int (i + j)) := rfl
@[simp] theorem x_sub : subD h (.int i) (.int j) = some (.int (i - j)) := rfl
@[simp] theorem x_mul : mulA h (.int i) (.int j) = if CMul i j then some (.int (i * j)) else none := rfl
@[simp] theorem x_div : divD h (.int i) (.int j) = if 0 < j ∧ j.natAbs.log2 < 9000 then some (.int (i / j)) else none := rfl
@[simp] theorem x_mod : modD h (.int i) (.int j) = if 0 < j then some (.int (i % j)) else none := rfl
@[simp] theorem x_pow : powD h (.int i) (.int j) = if 0 ≤ j ∧ j ≤ 1000000 ∧ i.natAbs < 2 ^ 64 then some (.int (i ^ j.toNat)) else none := rfl
@[simp] theorem x_shl : shlD h (.int i) (.int j) = if 0 ≤ j ∧ j ≤ 1000000 ∧ i.natAbs < 2 ^ 64 then some (.int (i * 2 ^ j.toNat)) else none := rfl
@[simp] theorem x_shr : shrD h (.int i) (.int j) = if 0 ≤ j then some (.int (i / 2 ^ j.toNat)) else none := rfl
@[simp] theorem x_and : andD h (.int i) (.int j) = some (.int (Builtin.bitAnd i j)) := rfl
@[simp] theorem x_or : orD h (.int i) (.int j) = some (.int (Builtin.bitOr i j)) := rfl
@[simp] theorem x_xor : xorD h (.int i) (.int j) = some (.int (Builtin.bitXor i j)) := rfl
@[simp] theorem x_lt : ltD h (.int i) (.int j) = some (.bl (decide (i < j))) := rfl
@[simp] theorem x_le : leD h (.int i) (.int j) = some (.bl (decide (i ≤ j))) := rfl
@[simp] theorem x_gt : gtD h (.int i) (.int j) = some (.bl (decide (j < i))) := rfl
@[simp] theorem x_ge : geD h (.int i) (.int j) = some (.bl (decide (j ≤ i))) := rfl
@[simp] theorem x_eqi : eqD h (.int i) (.int j) = some (.bl (decide (i = j))) := rfl
@[simp] theorem x_eqs : eqD h (.str a) (.str b) = some (.bl (decide (a = b))) := rfl
@[simp] theorem x_nei : neD h (.int i) (.int j) = some (.bl (!decide (i = j))) := rfl
@[simp] theorem x_nes : neD h (.str a) (.str b) = some (.bl (!decide (a = b))) := rfl
@[simp] theorem x_isN : isND h x .non = some (.bl (isN x)) := rfl
@[simp] theorem x_isnotN : isnotND h x .non = some (.bl (!isN x)) := rfl
@[simp] theorem x_ix1 : ixD h (.lst xs) (.int i) = atI xs i := rfl
@[simp] theorem x_ix2 : ixD h (.tup xs) (.int i) = atI xs i := rfl
@[simp] theorem x_ix3 : ixD h (.scr xs) (.int i) = atI xs i := rfl
@[simp] theorem x_len1 : lenD h [.lst xs] = some (.int xs.length) := rfl
@[simp] theorem x_len2 : lenD h [.tup xs] = some (.int xs.length) := rfl
@[simp] theorem x_len3 : lenD h [.scr xs] = some (.int xs.length) := rfl
@[simp] theorem x_int1 : intD h [.int i] = some (.int i) := rfl
@[simp] theorem x_int2 (k : Bool) : intD h [.bl k] = some (.int (if k then 1 else 0)) := rfl
@[simp] theorem x_max : maxD h [.int i, .int j] = some (.int (if j > i then j else i)) := rfl
@[simp] theorem x_min : minD h [.int i, .int j] = some (.int (if j < i then j else i)) := rfl
@[simp] theorem x_sl1 (lo hi : Option Int) : slD h (.tup xs) lo hi = some (.tup (cut xs lo hi)) := rfl
@[simp] theorem x_sl2 (lo hi : Option Int) : slD h (.lst xs) lo hi = some (.lst (cut xs lo hi)) := rfl
theorem ix_ref {h : List Ob} {k : Nat} {xs : List D} (q : h[k]? = some (.lst xs)) (i : Int) : ixD h (.ref k) (.int i) = atI xs i := by
  show (match seqOf h (.ref k) with
    | some xs => atI xs i
    | none => none) = _
  unfold seqOf
  dsimp only
  rw [q]
theorem set_ref {h : List Ob} {k m : Nat} {xs : List D} {i : Int} {v : D} (q : h[k]? = some (.lst xs)) (e : ixN xs.length i = some m) : setItem h (.ref k) (.int i) v = some (h.set k (.lst (xs.set m v))) := by
  unfold setItem
  dsimp only
  rw [q]
  dsimp only
  rw [e]
end
end Fv


set_option Elab.async false
set_option linter.all false
set_option maxRecDepth 100000
set_option maxHeartbeats 4000000
set_option autoImplicit false
/-! ### more rules by which the functions are reckoned: new things, things that stay -/
namespace Fv
open PySem PySem.Spec PyProof.Rows L2 Bm
section
variable {h t : List Ob} {o o' a : Ob}
theorem size_le {n : Nat} (h : n ≤ 1000) : n ≤ sizeLine := by rw [sizeLine_eq]; omega
@[simp] theorem at_new0 : (h ++ o :: t)[h.length]? = some o := by simp
@[simp] theorem at_new1 : (h ++ a :: o :: t)[h.length + 1]? = some o := by simp
@[simp] theorem set_new0 : (h ++ o :: t).set h.length o' = h ++ o' :: t := by simp
@[simp] theorem set_new1 : (h ++ a :: o :: t).set (h.length + 1) o' = h ++ a :: o' :: t := by simp
@[simp] theorem x_seqr (k : Nat) : seqOf h (.ref k) = (match h[k]? with
  | some (.lst xs) => some xs
  | _ => none) := rfl
@[simp] theorem x_lsqr (k : Nat) : lsqOf h (.ref k) = (match h[k]? with
  | some (.lst xs) => some xs
  | _ => none) := rfl
@[simp] theorem x_lstr (k : Nat) : lstOf h (.ref k) = (match h[k]? with
  | some (.lst xs) => some xs
  | _ => none) := rfl
@[simp] theorem x_seq1 (xs : List D) : seqOf h (.lst xs) = some xs := rfl
@[simp] theorem x_seq2 (xs : List D) : seqOf h (.tup xs) = some xs := rfl
@[simp] theorem x_seq3 (xs : List D) : seqOf h (.scr xs) = some xs := rfl
@[simp] theorem x_lsq1 (xs : List D) : lsqOf h (.lst xs) = some xs := rfl
@[simp] theorem x_lsq3 (xs : List D) : lsqOf h (.scr xs) = some xs := rfl
@[simp] theorem x_lst1 (xs : List D) : lstOf h (.lst xs) = some xs := rfl
@[simp] theorem x_ixr (k : Nat) (i : Int) : ixD h (.ref k) (.int i) = (match seqOf h (.ref k) with
  | some xs => atI xs i
  | none => none) := rfl
@[simp] theorem x_setItem (k : Nat) (j : Int) (v : D) : setItem h (.ref k) (.int j) v = (match h[k]? with
  | some (.lst xs) => match ixN xs.length j with
    | some m => some (h.set k (.lst (xs.set m v)))
    | none => none
  | _ => none) := rfl
@[simp] theorem x_insr (k : Nat) : insOf h (.ref k) = (match h[k]? with
  | some (.ins c fs) => some (c, fs)
  | _ => none) := rfl
@[simp] theorem x_inso (c : Str) (ns : List Str) (ds : List D) : insOf h (.obj c ns ds) = some (c, ns.zip ds) := rfl
@[simp] theorem x_setFld (cs : List Str) (f : Str) (k : Nat) (d : D) : setFld h cs f (.ref k) d = (match h[k]? with
  | some (.ins c fs) => if c ∈ cs ∧ fs.length < 100 then some (h.set k (.ins c (putFD f d fs))) else none
  | _ => none) := rfl
@[simp] theorem x_putF0 (f : Str) (d : D) : putFD f d [] = [(f, d)] := rfl
@[simp] theorem x_putF1 (f g : Str) (d x : D) (r : List (Str × D)) : putFD f d ((g, x) :: r) = if g = f then (f, d) :: r else (g, x) :: putFD f d r := rfl
@[simp] theorem x_lenr (k : Nat) : lenD h [.ref k] = (seqOf h (.ref k)).map fun xs => .int xs.length := rfl
@[simp] theorem x_dputM (fd fy fv : M D) (e : En) : dputM fd fy fv e = bnd fv (fun v => bnd fd fun x => bnd fy fun y e => match dputE e.h x y v with
  | some h' => .ok .nx ⟨e.ρ, h'⟩
  | none => .stuck) e := rfl
@[simp] theorem x_dputE (j : Nat) (s : Str) (v : D) : dputE h (.ref j) (.str s) v = (match h[j]? with
  | some (.dic ks ds) => if ks.length < 1000000 ∧ ks.Nodup then some (h.set j (.dic (putD (.inr s) v ks ds).1 (putD (.inr s) v ks ds).2)) else none
  | _ => none) := rfl
@[simp] theorem x_putD0 (k : Key) (x : D) : putD k x [] [] = ([k], [x]) := rfl
@[simp] theorem x_putD1 (k j : Key) (x d : D) (ks : List Key) (ds : List D) : putD k x (j :: ks) (d :: ds) = if j = k then (j :: ks, x :: ds) else ((j :: (putD k x ks ds).1), (d :: (putD k x ks ds).2)) := rfl
@[simp] theorem x_forL0 (b : D → En → Option En) (body : M Fl) (e : En) : forL b body [] e = .ok .nx e := rfl
@[simp] theorem x_forL1 (b : D → En → Option En) (body : M Fl) (d : D) (ds : List D) (e : En) : forL b body (d :: ds) e = (match b d e with
    | some e1 => match body e1 with
      | .ok .nx e2 => forL b body ds e2
      | .ok .ct e2 => forL b body ds e2
      | .ok .bk e2 => .ok .nx e2
      | r => r
    | none => .stuck) := rfl
@[simp] theorem x_addlr (xs : List D) (k : Nat) : addD h (.lst xs) (.ref k) = (match lstOf h (.ref k) with
  | some ys => if xs.length + ys.length ≤ sizeLine then some (.lst (xs ++ ys)) else none
  | none => none) := by
  show (match lstOf h (.lst xs), lstOf h (.ref k) with
    | some xs, some ys => if xs.length + ys.length ≤ sizeLine then some (D.lst (xs ++ ys)) else none
    | _, _ => none) = _
  cases q : lstOf h (.ref k) <;> simp
@[simp] theorem x_addrl (k : Nat) (ys : List D) : addD h (.ref k) (.lst ys) = (match lstOf h (.ref k) with
  | some xs => if xs.length + ys.length ≤ sizeLine then some (.lst (xs ++ ys)) else none
  | none => none) := by
  show (match lstOf h (.ref k), lstOf h (.lst ys) with
    | some xs, some ys => if xs.length + ys.length ≤ sizeLine then some (D.lst (xs ++ ys)) else none
    | _, _ => none) = _
  cases q : lstOf h (.ref k) <;> simp
@[simp] theorem x_mtL (g : List Ob → Ob → List D → Option (D × Ob)) (fo : M D) (fa : M (List D)) (e : En) : mtM "list" g fo fa e = bnd fo (fun x => bnd (fun e => match x with
    | .ref k => match e.h[k]? with
      | some (.lst _) => .ok () e
      | _ => .stuck
    | _ => .stuck : M Unit) fun _ => bnd fa fun ds e => match mutE e.h x fun o => g e.h o ds with
  | some (d, h') => .ok d ⟨e.ρ, h'⟩
  | none => .stuck) e := by
  unfold mtM
  congr 1
  funext x
  congr 1
  funext e
  cases x <;> try rfl
  rename_i k
  dsimp only
  cases e.h[k]? with
  | none => rfl
  | some o => cases o <;> rfl
@[simp] theorem x_mutE (k : Nat) (g : Ob → Option (D × Ob)) : mutE h (.ref k) g = (match h[k]? with
    | some o => match g o with
      | some (d, o') => some (d, h.set k o')
      | none => none
    | none => none) := rfl
@[simp] theorem x_pop (xs : List D) : popO h (.lst xs) [] = (match xs[xs.length - 1]? with
    | some d => some (d, .lst xs.dropLast)
    | none => none) := rfl
@[simp] theorem x_append (xs : List D) (d : D) : appendO h (.lst xs) [d] = if xs.length < 1000000 then some (.non, .lst (xs ++ [d])) else none := rfl
@[simp] theorem x_nilG (e : En) : nilG [] e = some e := rfl
@[simp] theorem x_consG (b : D → En → Option En) (bs : List D → En → Option En) (d : D) (ds : List D) (e : En) : consG b bs (d :: ds) e = (match b d e with
  | some e' => bs ds e'
  | none => none) := rfl
@[simp] theorem x_tupG (n : Nat) (bs : List D → En → Option En) (ds : List D) (e : En) : tupG n bs (.tup ds) e = if ds.length = n then bs ds e else none := rfl
@[simp] theorem x_ine (x y : D) : inD h x y = (inF h x y).map .bl := rfl
@[simp] theorem x_notine (x y : D) : notinD h x y = (inF h x y).map fun b => .bl (!b) := by
  unfold notinD
  cases inF h x y <;> rfl
@[simp] theorem x_inF1 (x : D) (ys : List D) : inF h x (.tup ys) = if flatD x = true ∧ ys.all flatD = true then some (ys.any fun z => eqV (dV z) (dV x)) else none := rfl
@[simp] theorem x_inF2 (x : D) (ys : List D) : inF h x (.lst ys) = if flatD x = true ∧ ys.all flatD = true then some (ys.any fun z => eqV (dV z) (dV x)) else none := rfl
@[simp] theorem x_fl1 (i : Int) : flatD (.int i) = true := rfl
@[simp] theorem x_fl2 (i : Str) : flatD (.str i) = true := rfl
@[simp] theorem x_fl3 (i : Bool) : flatD (.bl i) = true := rfl
@[simp] theorem x_fl4 : flatD .non = true := rfl
@[simp] theorem x_dv1 (i : Int) : dV (.int i) = .int i := rfl
@[simp] theorem x_dv2 (i : Str) : dV (.str i) = .str i := rfl
@[simp] theorem x_dv3 (i : Bool) : dV (.bl i) = .bl i := rfl
@[simp] theorem x_eqV1 (i j : Int) : eqV (.int i) (.int j) = (i == j) := rfl
@[simp] theorem x_eqV2 (i j : Str) : eqV (.str i) (.str j) = (i == j) := rfl
@[simp] theorem x_eqV3 (i : Str) (j : Int) : eqV (.str i) (.int j) = false := rfl
@[simp] theorem x_eqV4 (i : Int) (j : Str) : eqV (.int i) (.str j) = false := rfl
@[simp] theorem x_find0 (y : D) : findF y [] = none := rfl
@[simp] theorem x_find1 (y x : D) (xs : List D) : findF y (x :: xs) = if eqV (dV x) (dV y) then some 0 else (findF y xs).map (· + 1) := rfl
@[simp] theorem x_index (x y : D) : indexD h x [y] = (match lsqOf h x with
  | some xs => if flatD y = true ∧ xs.all flatD = true then (findF y xs).map fun j => .int (j : Nat) else none
  | none => none) := rfl
@[simp] theorem x_ty1 (xs : List D) : tyD h (.lst xs) = some "list" := rfl
@[simp] theorem x_idx0 (z : Str) : idxS z [] = none := rfl
@[simp] theorem x_idx1 (z x : Str) (xs : List Str) : idxS z (x :: xs) = if x = z then some 0 else (idxS z xs).map (· + 1) := rfl
@[simp] theorem x_sum1 (xs : List D) : sumA h [.tup xs] = (intsOf xs).map fun ns => .int ns.sum := rfl
@[simp] theorem x_sum2 (xs : List D) : sumA h [.lst xs] = (intsOf xs).map fun ns => .int ns.sum := rfl
@[simp] theorem x_ints0 : intsOf [] = some [] := rfl
@[simp] theorem x_ints1 (i : Int) (r : List D) : intsOf (.int i :: r) = (intsOf r).map (i :: ·) := rfl
@[simp] theorem x_isi (x : D) (c : String) : isiD h [x, .typ c] = if c ∈ isiNames then (kdOf h x).map fun n => .bl (isiB n c) else none := rfl
@[simp] theorem x_kd1 (i : Int) : kdOf h (.int i) = some "int" := rfl
@[simp] theorem x_kd2 (i : Str) : kdOf h (.str i) = some "str" := rfl
@[simp] theorem x_kd3 (i : Bool) : kdOf h (.bl i) = some "bool" := rfl
@[simp] theorem x_kd4 (xs : List D) : kdOf h (.tup xs) = some "tuple" := rfl
@[simp] theorem x_kd5 (xs : List D) : kdOf h (.lst xs) = some "list" := rfl
@[simp] theorem x_kd6 : kdOf h .non = some "NoneType" := rfl
@[simp] theorem x_list (d : D) : listD h [d] = (seqOf h d).map .lst := rfl
@[simp] theorem x_dget (ks : List Key) (ds : List D) (s : Str) : dgetD h (.dic ks ds) (.str s) = valD (.inr s) ks ds := rfl
@[simp] theorem x_dgeti (ks : List Key) (ds : List D) (s : Int) : dgetD h (.dic ks ds) (.int s) = valD (.inl s) ks ds := rfl
@[simp] theorem x_valD (k j : Key) (ks : List Key) (d : D) (ds : List D) : valD k (j :: ks) (d :: ds) = if j = k then some d else valD k ks ds := rfl
@[simp] theorem x_zipL0 (ys : List D) : zipL [] ys = [] := rfl
@[simp] theorem x_zipL1 (x y : D) (xs ys : List D) : zipL (x :: xs) (y :: ys) = .tup [x, y] :: zipL xs ys := rfl
@[simp] theorem x_zipL2 (xs : List D) : zipL xs [] = [] := by cases xs <;> rfl
@[simp] theorem x_all (xs : List D) : allD h [.lst xs] = (boolsOf xs).map fun bs => .bl (bs.all id) := rfl
@[simp] theorem x_any (xs : List D) : anyD h [.lst xs] = (boolsOf xs).map fun bs => .bl (bs.any id) := rfl
@[simp] theorem x_bools0 : boolsOf [] = some [] := rfl
@[simp] theorem x_bools1 (b : Bool) (r : List D) : boolsOf (.bl b :: r) = (boolsOf r).map (b :: ·) := rfl
end
theorem atI_of {α : Type} {xs : List α} {i : Int} {x : α} (h0 : 0 ≤ i) (e : xs[i.toNat]? = some x) : atI xs i = some x := by
  have hl := (List.getElem?_eq_some_iff.mp e).1
  unfold atI ixN
  rw [if_pos h0, if_pos (by omega)]
  exact e
@[simp] theorem atI_0 {α : Type} (x : α) (xs : List α) : atI (x :: xs) 0 = some x := atI_of (by decide) rfl
@[simp] theorem atI_1 {α : Type} (x y : α) (xs : List α) : atI (x :: y :: xs) 1 = some y := atI_of (by decide) rfl
@[simp] theorem atI_2 {α : Type} (x y z : α) (xs : List α) : atI (x :: y :: z :: xs) 2 = some z := atI_of (by decide) rfl
@[simp] theorem atI_3 {α : Type} (x y z a : α) (xs : List α) : atI (x :: y :: z :: a :: xs) 3 = some a := atI_of (by decide) rfl
@[simp] theorem atI_4 {α : Type} (x y z a b : α) (xs : List α) : atI (x :: y :: z :: a :: b :: xs) 4 = some b := atI_of (by decide) rfl
@[simp] theorem atI_5 {α : Type} (x y z a b c : α) (xs : List α) : atI (x :: y :: z :: a :: b :: c :: xs) 5 = some c := atI_of (by decide) rfl
@[simp] theorem atI_6 {α : Type} (x y z a b c d : α) (xs : List α) : atI (x :: y :: z :: a :: b :: c :: d :: xs) 6 = some d := atI_of (by decide) rfl
@[simp] theorem atI_7 {α : Type} (x y z a b c d e : α) (xs : List α) : atI (x :: y :: z :: a :: b :: c :: d :: e :: xs) 7 = some e := atI_of (by decide) rfl
@[simp] theorem atI_m1 {α : Type} (xs : List α) : atI xs (-1) = xs[xs.length - 1]? := by
  cases xs with
  | nil => rfl
  | cons x xs =>
    unfold atI ixN
    rw [if_neg (by decide), if_pos (by simp; omega)]
    have : ((-1 : Int) + ((x :: xs).length : Nat)).toNat = (x :: xs).length - 1 := by simp; omega
    rw [this]
    rfl
@[simp] theorem atI_m2 {α : Type} (x y : α) (xs : List α) : atI (x :: y :: xs) (-2) = (x :: y :: xs)[xs.length]? := by
  unfold atI ixN
  rw [if_neg (by decide), if_pos (by simp; omega)]
  have : ((-2 : Int) + ((x :: y :: xs).length : Nat)).toNat = xs.length := by simp; omega
  rw [this]
  rfl
theorem at_set {h : List Ob} {k : Nat} {o : Ob} (q : h[k]? = some o) (o' : Ob) : (h.set k o')[k]? = some o' := by
  have hl := (List.getElem?_eq_some_iff.mp q).1
  simp [hl]
/-! texts by their letters -/
theorem map_toNat : ∀ {xs ys : List Char}, xs.map Char.toNat = ys.map Char.toNat → xs = ys
  | [], [], _ => rfl
  | x :: xs, y :: ys, e => by
    rw [List.map_cons, List.map_cons, List.cons.injEq] at e
    rw [map_toNat e.2, show x = y from Char.ext (UInt32.toNat_inj.mp e.1)]
@[simp] theorem ofS_inj (a b : String) : (Str.ofString a = Str.ofString b) = (a = b) := by
  refine propext ⟨fun e => ?_, fun e => by rw [e]⟩
  rw [Str.ofString_eq_toList, Str.ofString_eq_toList, Str.mk.injEq] at e
  exact String.toList_injective (map_toNat (by simpa using e))
@[simp] theorem x_look (k a : Str) (b : D) (l : List (Str × D)) : List.lookup k ((a, b) :: l) = if k = a then some b else List.lookup k l := by
  rw [List.lookup_cons]
  by_cases c : k = a
  · simp [c]
  · rw [if_neg c, beq_eq_false_iff_ne.mpr c]
/-! flat data: == [], == () -/
@[simp] theorem ok_lit (s : String) : PyData.strOk (Str.ofString s) = true := by
  rw [Str.ofString_eq_toList]
  unfold PyData.strOk
  rw [Array.all_eq_true]
  intro i hi
  simp only [List.getElem_toArray, List.getElem_map, decide_eq_true_eq]
  have := (s.toList[i]'(by simpa using hi)).valid
  unfold UInt32.isValidChar Nat.isValidChar at this
  show (s.toList[i]'(by simpa using hi)).val.toNat < 1114112
  omega
def flatS : D → Bool
  | .str x => PyData.strOk x
  | .int _ => true
  | .bl _ => true
  | .non => true
  | _ => false
def flatP : D → PyData
  | .str x => .str x
  | .int i => .int i
  | .bl b => .bool b
  | _ => .none
theorem flatP_to {go : Nat → Option PyData} {d : D} (f : flatS d = true) : toPW go d = some (flatP d) ∧ (flatP d).canLay0 = true ∧ (flatP d).depth = 0 := by
  cases d with
  | str x => exact ⟨by simp [toPW, flatP], by simpa [flatP, PyData.canLay0, flatS] using f, by simp [flatP, PyData.depth]⟩
  | int i => exact ⟨by simp [toPW, flatP], by simp [flatP, PyData.canLay0], by simp [flatP, PyData.depth]⟩
  | bl i => exact ⟨by simp [toPW, flatP], by simp [flatP, PyData.canLay0], by simp [flatP, PyData.depth]⟩
  | non => exact ⟨by simp [toPW, flatP], by simp [flatP, PyData.canLay0], by simp [flatP, PyData.depth]⟩
  | _ => cases f
theorem flatPs_to {go : Nat → Option PyData} : ∀ {xs : List D}, xs.all flatS = true → Fv.toPs go xs = some (xs.map flatP) ∧ PyData.canLayAll0 (xs.map flatP) = true ∧ PyData.depthAll (xs.map flatP) = 0
  | [], _ => ⟨by simp [Fv.toPs], by simp [PyData.canLayAll0], by simp [PyData.depthAll]⟩
  | x :: xs, f => by
    rw [List.all_cons, Bool.and_eq_true] at f
    obtain ⟨a1, a2, a3⟩ := flatP_to (go := go) f.1
    obtain ⟨b1, b2, b3⟩ := flatPs_to (go := go) f.2
    exact ⟨by simp [Fv.toPs, a1, b1], by simp [PyData.canLayAll0, a2, b2], by simp [PyData.depthAll, a3, b3]⟩
theorem eqv_nil (xs : List D) : PyData.eqvAll (xs.map flatP) [] = xs.isEmpty := by cases xs <;> simp [PyData.eqvAll]
theorem eq_tnil {h : List Ob} {xs : List D} (f : xs.all flatS = true) : eqD h (.tup xs) (.tup []) = some (.bl xs.isEmpty) := by
  obtain ⟨a1, a2, a3⟩ := flatPs_to (go := goN h 3) f
  simp [eqD, eqF, dataOf, toPW, a1, Fv.toPs, SeqAt.shaped, PyData.canLay0, PyData.canLayAll0, a2, PyData.depth, PyData.depthAll, a3, PyData.eqv, eqv_nil]
theorem eq_lnil {h : List Ob} {xs : List D} (f : xs.all flatS = true) : eqD h (.lst xs) (.lst []) = some (.bl xs.isEmpty) := by
  obtain ⟨a1, a2, a3⟩ := flatPs_to (go := goN h 3) f
  simp [eqD, eqF, dataOf, toPW, a1, Fv.toPs, SeqAt.shaped, PyData.canLay0, PyData.canLayAll0, a2, PyData.depth, PyData.depthAll, a3, PyData.eqv, eqv_nil]
theorem ne_rnil {h : List Ob} {k : Nat} {xs : List D} (q : h[k]? = some (.lst xs)) (f : xs.all flatS = true) : neD h (.ref k) (.lst []) = some (.bl (!xs.isEmpty)) := by
  obtain ⟨a1, a2, a3⟩ := flatPs_to (go := goN h 2) f
  have g3 : goN h 3 k = some (.list (xs.map flatP)) := by
    unfold goN
    rw [q]
    dsimp only
    rw [a1]
    rfl
  simp [neD, eqF, dataOf, toPW, g3, Fv.toPs, SeqAt.shaped, PyData.canLay0, PyData.canLayAll0, a2, PyData.depth, PyData.depthAll, a3, PyData.eqv, eqv_nil]
/-! what stays -/
mutual
theorem fz_low {go : D → Option D} {h : List Ob} {n : Nat} : ∀ {d : D}, low n d = true → fzW go h n d = some d
  | .ref k, l => by
    have : k < n := by simpa [low] using l
    simp [fzW, this]
  | .tup xs, l => by
    have := fzs_low (go := go) (h := h) (xs := xs) (n := n) (by simpa [low] using l)
    simp [fzW, this]
  | .lst xs, l => by
    have := fzs_low (go := go) (h := h) (xs := xs) (n := n) (by simpa [low] using l)
    simp [fzW, this]
  | .scr xs, l => by
    have := fzs_low (go := go) (h := h) (xs := xs) (n := n) (by simpa [low] using l)
    simp [fzW, this]
  | .dic ks xs, l => by
    have := fzs_low (go := go) (h := h) (xs := xs) (n := n) (by simpa [low] using l)
    simp [fzW, this]
  | .obj c ns xs, l => by
    have := fzs_low (go := go) (h := h) (xs := xs) (n := n) (by simpa [low] using l)
    simp [fzW, this]
  | .non, _ => by simp [fzW]
  | .bl _, _ => by simp [fzW]
  | .int _, _ => by simp [fzW]
  | .str _, _ => by simp [fzW]
  | .typ _, _ => by simp [fzW]
  | .nd _, _ => by simp [fzW]
theorem fzs_low {go : D → Option D} {h : List Ob} {n : Nat} : ∀ {xs : List D}, lows n xs = true → fzs go h n xs = some xs
  | [], _ => by simp [fzs]
  | x :: xs, l => by
    have l' : low n x = true ∧ lows n xs = true := by simpa [lows] using l
    simp [fzs, fz_low l'.1, fzs_low l'.2]
end
theorem mapO_low {h : List Ob} {n m : Nat} : ∀ {xs : List D}, lows n xs = true → mapO (fzN h n (m + 1)) xs = some xs
  | [], _ => by simp [mapO]
  | x :: xs, l => by
    have l' : low n x = true ∧ lows n xs = true := by simpa [lows] using l
    have e1 : fzN h n (m + 1) x = some x := fz_low l'.1
    simp [mapO, e1, mapO_low l'.2]
mutual
theorem low_zero {n : Nat} : ∀ {d : D}, low 0 d = true → low n d = true
  | .ref k, l => by simp [low] at l
  | .tup xs, l => by simp only [low] at l ⊢; exact lows_zero l
  | .lst xs, l => by simp only [low] at l ⊢; exact lows_zero l
  | .scr xs, l => by simp only [low] at l ⊢; exact lows_zero l
  | .dic ks xs, l => by simp only [low] at l ⊢; exact lows_zero l
  | .obj c ns xs, l => by simp only [low] at l ⊢; exact lows_zero l
  | .non, _ => by simp [low]
  | .bl _, _ => by simp [low]
  | .int _, _ => by simp [low]
  | .str _, _ => by simp [low]
  | .typ _, _ => by simp [low]
  | .nd _, _ => by simp [low]
theorem lows_zero {n : Nat} : ∀ {xs : List D}, lows 0 xs = true → lows n xs = true
  | [], _ => by simp [lows]
  | x :: xs, l => by
    have l' : low 0 x = true ∧ lows 0 xs = true := by simpa [lows] using l
    simp [lows, low_zero l'.1, lows_zero l'.2]
end
theorem drop_ok {f : M D} {e : En} {t : List Ob} {d d' : D} (q : f e = .ok d ⟨e.ρ, e.h ++ t⟩) (z : fz (e.h ++ t) e.h.length d = some d') : dropM f e = .ok d' e := by
  unfold dropM
  rw [q]
  dsimp only
  rw [if_pos ⟨drops_app, by simp, rfl⟩, z]
  simp
theorem drop_ins {f : M D} {e : En} {c : Str} {fs : List (Str × D)} (q : f e = .ok (.ref e.h.length) ⟨e.ρ, e.h ++ [.ins c fs]⟩) (l : lows 0 (fs.map (·.2)) = true) : dropM f e = .ok (.obj c (fs.map (·.1)) (fs.map (·.2))) e := by
  refine drop_ok q ?_
  show fzW _ _ _ _ = _
  simp [fzW, mapO_low (lows_zero l)]
theorem drop_lst {f : M D} {e : En} {xs : List D} (q : f e = .ok (.ref e.h.length) ⟨e.ρ, e.h ++ [.lst xs]⟩) (l : lows 0 xs = true) : dropM f e = .ok (.lst xs) e := by
  refine drop_ok q ?_
  show fzW _ _ _ _ = _
  simp [fzW, mapO_low (lows_zero l)]
theorem drop_make {c : Str} {Φ : Fun} {dds : List D} {fa : M (List D)} {e : En} {ds : List D} {fs : List (Str × D)} (qa : fa e = .ok ds e) (q : Φ (.ref e.h.length :: (ds ++ dds)) (e.h ++ [.ins c []]) = .ok .non (e.h ++ [.ins c fs])) (l : lows 0 (fs.map (·.2)) = true) :
    dropM (makeM c Φ dds fa) e = .ok (.obj c (fs.map (·.1)) (fs.map (·.2))) e := by
  refine drop_ins ?_ l
  unfold makeM bnd
  rw [qa]
  dsimp only
  rw [q]
theorem drop_makeK {c : Str} {Φ : Fun} {fa fk : M (List D)} {e : En} {ds es : List D} {fs : List (Str × D)} (qa : fa e = .ok ds e) (qk : fk e = .ok es e) (q : Φ (.ref e.h.length :: (ds ++ es)) (e.h ++ [.ins c []]) = .ok .non (e.h ++ [.ins c fs])) (l : lows 0 (fs.map (·.2)) = true) :
    dropM (makeK c Φ fa fk) e = .ok (.obj c (fs.map (·.1)) (fs.map (·.2))) e := by
  refine drop_ins ?_ l
  unfold makeK bnd
  rw [qa]
  dsimp only
  rw [qk]
  dsimp only
  rw [q]
/-! a list made turn by turn, of things that only look -/
theorem lc_all {t : Tg} {tt : M Bool} {f : M D} {ρ : List (Option D)} {h : List Ob} {g : D → D} : ∀ {ds acc : List D}, acc.length + ds.length ≤ 1000000 →
    (∀ d ∈ ds, ∃ ρ1, t.put d ρ = some ρ1 ∧ ∀ h', tt ⟨ρ1, h'⟩ = .ok true ⟨ρ1, h'⟩ ∧ f ⟨ρ1, h'⟩ = .ok (g d) ⟨ρ1, h'⟩) → lcL t tt f ρ h.length ds (h ++ [.lst acc]) = some (h ++ [.lst (acc ++ ds.map g)])
  | [], acc, _, _ => by simp [lcL]
  | d :: ds, acc, hl, k => by
    obtain ⟨ρ1, h1, h2⟩ := k d (by simp)
    obtain ⟨h3, h4⟩ := h2 (h ++ [.lst acc])
    have hl' : acc.length + (ds.length + 1) ≤ 1000000 := by simpa using hl
    have := lc_all (t := t) (tt := tt) (f := f) (ρ := ρ) (h := h) (g := g) (ds := ds) (acc := acc ++ [g d]) (by simp; omega) fun d' hd => k d' (by simp [hd])
    unfold lcL
    rw [h1]
    dsimp only
    rw [h3]
    dsimp only
    rw [h4]
    dsimp only
    rw [at_new0]
    dsimp only
    rw [if_pos (by omega), set_new0, this]
    simp
theorem drop_lc {t : Tg} {vs : List Nat} {fi : M (List D)} {tt : M Bool} {f : M D} {e : En} {ds : List D} {g : D → D} (qi : fi e = .ok ds e) (hl : ds.length ≤ 1000000)
    (k : ∀ d ∈ ds, ∃ ρ1, t.put d (wipeD e.ρ vs) = some ρ1 ∧ ∀ h', tt ⟨ρ1, h'⟩ = .ok true ⟨ρ1, h'⟩ ∧ f ⟨ρ1, h'⟩ = .ok (g d) ⟨ρ1, h'⟩) (l : lows 0 (ds.map g) = true) : dropM (lcP t vs fi tt f) e = .ok (.lst (ds.map g)) e := by
  refine drop_lst ?_ l
  unfold lcP bnd
  rw [qi]
  dsimp only
  rw [lc_all (g := g) (by simpa using hl) k]
  simp
end Fv


set_option Elab.async false
set_option linter.all false
set_option maxRecDepth 100000
set_option maxHeartbeats 4000000
set_option autoImplicit false
namespace Fv
open PySem PySem.Spec PyProof.Rows L2 Bm
/-! ### xs[::k] -/
/-- which places a slice with a step takes -/
def stepIx (n : Nat) (st : Option Int) : List Nat := sliceRange (sliceBounds none none st n).1 (sliceBounds none none st n).2.1 (sliceBounds none none st n).2.2
def stepX {α : Type} (xs : List α) (st : Option Int) : List α := (stepIx xs.length st).filterMap (xs[·]?)
theorem vals_pick {xs : List V} {us : List Value} (r : Vals xs us) : ∀ is : List Nat, Vals (is.filterMap (xs[·]?)) (is.filterMap (us[·]?))
  | [] => .nil
  | i :: is => by
    rw [List.filterMap_cons, List.filterMap_cons]
    cases e : xs[i]? with
    | none =>
      have : us[i]? = none := by
        rw [List.getElem?_eq_none_iff] at e ⊢
        rw [← r.length]
        exact e
      rw [this]
      exact vals_pick r is
    | some x =>
      obtain ⟨u, hu, ru⟩ := r.get e
      rw [hu]
      exact .cons ru (vals_pick r is)
theorem pick_eq (its : List Value) (st : Option Int) : slicePick its.toArray none none st = (stepX its st).toArray := by
  unfold slicePick stepX stepIx
  simp
theorem step_len {α : Type} (xs : List α) (st : Option Int) : (stepX xs st).length ≤ xs.length := by
  have h := slicePick_size_le (xs.map fun _ => Value.none).toArray none none st
  rw [pick_eq, List.size_toArray, List.size_toArray, List.length_map] at h
  have e : (stepX (xs.map fun _ => Value.none) st).length = (stepX xs st).length := by
    unfold stepX
    rw [List.length_map]
    generalize stepIx xs.length st = is
    induction is with
    | nil => rfl
    | cons i is ih =>
      rw [List.filterMap_cons, List.filterMap_cons, List.getElem?_map]
      cases xs[i]? with
      | none => exact ih
      | some x => simpa using ih
  omega
def tSlS (K : PySem.W.Frag) (te : TE) (ts : TO) : TE := fun σ H Q => te σ H fun x H1 => ts σ H1 fun st H2 => st ≠ some 0 ∧ ∃ a xs, x = .ref a ∧ SqL K H2 a xs ∧ ∀ p, H2 p = none → Q (.ref p) (upd H2 p (.lst (stepX xs st)))
theorem pe_sliceS {X : Cx} {e : Expr} {te : TE} {c : Expr} {ts : TO} {pos p2 : Pos} (he : PE X e te) (hs : PO X (some c) ts) : PE X (.Subscript e (.Slice none none (some c) p2) pos) (tSlS X.K te ts) := by
  refine ⟨fun pins s σ H Q I h => ?_⟩
  refine Subscript_ (thn (he.run pins s σ H _ I h) fun v s1 ⟨x, H1, I1, r1, q1⟩ => ?_)
  refine wpAny_Slice ?_
  rw [evalPart_none]
  refine wpAny_pure ?_
  refine wpAny_pure ?_
  refine thn (hs.run pins s1 σ H1 _ I1 q1) fun vs s3 ⟨k, H3, I3, pk, q3⟩ => ?_
  obtain ⟨k0, a, xs, rfl, hx, q⟩ := q3
  obtain rfl : v = Value.ref a := r1
  have I4 : Inv X pins σ H3 { s3 with heap := s3.heap.push { cls := .type "slice", data := .fields #[.none, .none, vs] } } := I3.kept (t' := s3.toks) fun b ob q => Heap.get?_push_of_some _ q
  obtain ⟨its, r, ht, hz⟩ := I4.list hx
  show wpAny (model X.prog X.w) X.A (subscriptTail e (.Slice none none (some c) p2) (.ref a) (.ref s3.heap.objs.size)) (EP X pins σ Q) X.xe { s3 with heap := s3.heap.push { cls := .type "slice", data := .fields #[.none, .none, vs] } }
  refine tail_any (ops := [.ref a, .ref s3.heap.objs.size]) ht.isList.typeIs slot_list_getitem.lookup ?_ (by with_unfolding_all rfl)
  have hlen := r.length
  refine wpAny_getItem_list_slice ht.isList (Heap.IsSliceOf.new ..) .none .none pk k0 ?_ (by rw [List.size_toArray] <;> omega)
  rw [pick_eq]
  refine ⟨.ref _, _, I4.laid (t' := s3.toks) (o := .lst (stepX xs k)) (fun b ob q => Heap.get?_push_of_some _ q) (Nat.le_refl _) ?_, rfl, q _ (I4.hok.fresh (Nat.le_refl _))⟩
  refine ⟨Nat.le_trans (step_len xs k) hz, _, 0, ?_, Heap.get?_push_size _ rfl⟩
  have := vals_pick r (stepIx xs.length k)
  unfold stepX
  rw [← hlen]
  exact this
def stepM (fx : M D) (fk : M (Option Int)) : M Ob := bnd fx fun x => bnd fk fun k => lft fun h => match lsqOf h x with
  | some xs => if k ≠ some 0 then some (.lst (stepX xs k)) else none
  | none => none
theorem rds_pick {K : PySem.W.Frag} {G : Hp} {ι : List Addr} {xs : List D} {vs : List V} (r : RDs K G ι xs vs) : ∀ is : List Nat, RDs K G ι (is.filterMap (xs[·]?)) (is.filterMap (vs[·]?))
  | [] => .nil
  | i :: is => by
    rw [List.filterMap_cons, List.filterMap_cons]
    cases e : xs[i]? with
    | none =>
      have : vs[i]? = none := by
        rw [List.getElem?_eq_none_iff] at e ⊢
        rw [r.1]
        exact e
      rw [this]
      exact rds_pick r is
    | some x =>
      obtain ⟨u, hu, ru⟩ := r.get e
      rw [hu]
      exact .cons ru (rds_pick r is)
theorem o_step {X : Cx} {C : Ct} {e : Expr} {fx : M D} {fk : M (Option Int)} (hK : C.K = X.K) (p : PE X e (tSlS X.K (tF C fx) (tFP C fk))) : PE X e (tFO C (stepM fx fk)) := imE p fun σ H Q h => by
  obtain ⟨G, ι, en, k, h⟩ := h
  refine ⟨G, ι, en, k, PX.imp h.bnd fun x e1 G1 ι1 H1 u1 k1 q1 v rx => ⟨G1, ι1, e1, k1, PX.imp q1.bnd fun st e2 G2 ι2 H2 u2 k2 q2 => ?_⟩⟩
  obtain ⟨o, ho, q⟩ := (show PX C G2 ι2 σ (lft _ e2) _ from q2).lft
  split at ho
  · rename_i xs hx
    split at ho
    · rename_i hk
      cases ho
      obtain ⟨a, vs, rfl, h1, h2⟩ := lsq_rd k2.hs (rx.up u2) hx
      refine ⟨hk, a, vs, rfl, hK ▸ h1, fun p n => ?_⟩
      have h3 : RDs C.K G2 ι2 (stepX xs st) (stepX vs st) := by
        unfold stepX
        rw [h2.1]
        exact rds_pick h2 _
      exact q G2 ι2 _ Up.refl (k2.temp n) p (k2.hs.gnone n) (k2.hs.not_mem n) ⟨_, upd_same, h3⟩
    · cases ho
  · cases ho
/-! ### list(range(..)) -/
def lrg1 (f : M D) : M Ob := bnd f fun x => lft fun _ => match x with
  | .int j => if 0 ≤ j ∧ j ≤ 16777216 then some (.lst (rangeL 0 j.toNat)) else none
  | _ => none
theorem rg_rd {K : PySem.W.Frag} {G : Hp} {ι : List Addr} (lo : Int) : ∀ is : List Nat, RDs K G ι (is.map fun i => .int (lo + (i : Nat))) (is.map fun i => V.int (lo + (i : Nat)))
  | [] => .nil
  | i :: is => .cons (.int _) (rg_rd lo is)
theorem o_lrg1 {X : Cx} {C : Ct} {e : Expr} {f : M D} (p : PE X e (tLstRg (tRg1 (tF C f)))) : PE X e (tFO C (lrg1 f)) := imE p fun σ H Q h => by
  obtain ⟨G, ι, en, k, h⟩ := h
  refine ⟨G, ι, en, k, PX.imp h.bnd fun x e1 G1 ι1 H1 u1 k1 q1 v rx => ?_⟩
  obtain ⟨o, ho, q⟩ := (show PX C G1 ι1 σ (lft _ e1) _ from q1).lft
  split at ho
  · rename_i j
    split at ho
    · rename_i hj
      cases ho
      cases rx
      refine ⟨j, rfl, RgOk.of_le (by omega) hj.2 (by omega) hj.1, fun p n => ?_⟩
      refine q G1 ι1 _ Up.refl (k1.temp n) p (k1.hs.gnone n) (k1.hs.not_mem n) ⟨_, upd_same, ?_⟩
      have := rg_rd (K := C.K) (G := G1) (ι := ι1) 0 (List.range j.toNat)
      unfold rgV rangeL
      rw [show (j - 0).toNat = j.toNat by omega]
      exact this
    · cases ho
  · cases ho
end Fv


set_option Elab.async false
set_option linter.all false
set_option maxRecDepth 100000
set_option maxHeartbeats 4000000
set_option autoImplicit false
namespace Fv
open PySem PySem.Spec PyProof.Rows L2 Bm
/-! ### loops over lists that may change, but don't: looked at ahead of each turn -/
def Chk (h : List Ob) (ch : List (D × List D)) : Prop := ∀ p ∈ ch, lsqOf h p.1 = some p.2
structure ItC (K : PySem.W.Frag) (G : Hp) (ι : List Addr) (J : It) (ds : List D) (ch : List (D × List D)) : Prop where
  go : ∀ (G' : Hp) (ι' : List Addr) (H : Hp) (h : List Ob), Up G ι G' ι' → Hs K G' ι' H h → Chk h ch → ∀ (i : Nat) d, ds[i]? = some d → J.go i H ∧ ∀ x H', J.yld i H x H' → ∃ G'', Same G' G'' ∧ Same H H' ∧ Hs K G'' ι' H' h ∧ RD K G'' ι' d x
  stop : ∀ (G' : Hp) (ι' : List Addr) (H : Hp) (h : List Ob), Up G ι G' ι' → Hs K G' ι' H h → Chk h ch → J.stop ds.length H
theorem ItC.up {K : PySem.W.Frag} {G G' : Hp} {ι ι' : List Addr} {J : It} {ds : List D} {ch : List (D × List D)} (a : ItC K G ι J ds ch) (u : Up G ι G' ι') : ItC K G' ι' J ds ch :=
  ⟨fun G2 ι2 H h u2 s c i d e => a.go G2 ι2 H h (u.trans u2) s c i d e, fun G2 ι2 H h u2 s c => a.stop G2 ι2 H h (u.trans u2) s c⟩
theorem ItF.toC {K : PySem.W.Frag} {G : Hp} {ι : List Addr} {J : It} {ds : List D} (a : ItF K G ι J ds) : ItC K G ι J ds [] :=
  ⟨fun G' ι' H h u s _ => a.go G' ι' H h u s, fun G' ι' H h u s _ => a.stop G' ι' H h u s⟩
def tFIC (C : Ct) (f : M (List D × List (D × List D))) : TI := fun σ H R => ∃ G ι e, Ok C.K C.T G ι H σ e ∧ PX C G ι σ (f e) fun dc _ G' ι' H' => ∀ J, ItC C.K G' ι' J dc.1 dc.2 → R J H'
open Classical in
noncomputable def forC (b : D → En → Option En) (body : M Fl) (ch : List (D × List D)) : List D → M Fl
  | [], e => if Chk e.h ch then .ok .nx e else .stuck
  | d :: ds, e => if Chk e.h ch then match b d e with
    | some e1 => match body e1 with
      | .ok .nx e2 => forC b body ch ds e2
      | .ok .ct e2 => forC b body ch ds e2
      | .ok .bk e2 => .ok .nx e2
      | r => r
    | none => .stuck
    else .stuck
noncomputable def forMC (fi : M (List D × List (D × List D))) (b : D → En → Option En) (body : M Fl) : M Fl := bnd fi fun dc => forC b body dc.2 dc.1
section
variable {X : Cx} {C : Ct}
theorem s_forC {st : Stmt} {fi : M (List D × List (D × List D))} {b : D → En → Option En} {body : M Fl} (p : PS X st (tFor (tFIC C fi) (tFG C b) (tFS C body))) : PS X st (tFS C (forMC fi b body)) := imS p fun Z σ H h => by
  obtain ⟨G, ι, en, k, h⟩ := h
  refine ⟨G, ι, en, k, PX.imp (PS'.bnd h) fun dc e1 G1 ι1 H1 u1 k1 q1 J hJ => ?_⟩
  obtain ⟨ds, ch⟩ := dc
  dsimp only at hJ q1
  let W : Nat → Nat → L2.St → Hp → Prop := fun i m σ H => ∃ G ι e, Up G1 ι1 G ι ∧ Ok C.K C.T G ι H σ e ∧ i ≤ ds.length ∧ m = ds.length - i ∧ PS' C Z G ι (forC b body ch (ds.drop i) e)
  refine ⟨W, ⟨ds.length, G1, ι1, e1, Up.refl, k1, Nat.zero_le _, rfl, q1⟩, ?_⟩
  rintro i m σ2 H2 ⟨G2, ι2, en2, u2, k2, hi, hm, q2⟩
  by_cases hlt : i < ds.length
  · refine .inr ?_
    have hd : ds[i]? = some ds[i] := List.getElem?_eq_getElem hlt
    rw [List.drop_eq_getElem_cons hlt] at q2
    unfold forC at q2
    split at q2
    · rename_i hch
      obtain ⟨hgo, hy⟩ := (hJ.up u2).go G2 ι2 H2 en2.h Up.refl k2.hs hch i _ hd
      refine ⟨hgo, fun σ' H' => ∃ m', m' < m ∧ W (i + 1) m' σ' H', fun _ _ z => z, fun x H3 y => ?_⟩
      obtain ⟨G3, g3, s3, hs3, r3⟩ := hy x H3 y
      have k3 := k2.grow g3 s3 hs3
      have u3 : Up G2 ι2 G3 ι2 := ⟨g3, List.prefix_refl _⟩
      refine ⟨G3, ι2, en2, ds[i], k3, r3, ?_⟩
      cases qb : b ds[i] en2 with
      | none =>
        rw [qb] at q2
        exact q2
      | some e4 =>
        rw [qb] at q2
        intro G4 ι4 H4 σ4 u4 k4
        refine ⟨G4, ι4, e4, k4, ?_⟩
        have q2 := q2.up (u3.trans u4)
        have again : ∀ e5, PS' C Z G4 ι4 (forC b body ch (ds.drop (i + 1)) e5) → ∀ G5 ι5 H5 σ5, Up G4 ι4 G5 ι5 → Ok C.K C.T G5 ι5 H5 σ5 e5 → ∃ m', m' < m ∧ W (i + 1) m' σ5 H5 := fun e5 z G5 ι5 H5 σ5 u5 k5 =>
          ⟨ds.length - (i + 1), by omega, G5, ι5, e5, ((u2.trans u3).trans u4).trans u5, k5, hlt, rfl, z.up u5⟩
        dsimp only at q2
        cases qq : body e4 with
        | ok a e5 =>
          rw [qq] at q2
          cases a with
          | nx => exact again e5 q2
          | ct => exact again e5 q2
          | bk => exact q2
          | rt d => exact q2
        | ex x fs e5 =>
          rw [qq] at q2
          exact q2
        | stuck =>
          rw [qq] at q2
          exact q2
    · exact q2.elim
  · refine .inl ?_
    have hz : i = ds.length := by omega
    subst hz
    rw [List.drop_length] at q2
    unfold forC at q2
    split at q2
    · rename_i hch
      exact ⟨(hJ.up u2).stop G2 ι2 H2 en2.h Up.refl k2.hs hch, q2 G2 ι2 H2 σ2 Up.refl k2⟩
    · exact q2.elim
end
section
variable {K : PySem.W.Frag} {G : Hp} {ι : List Addr}
theorem itLC {a : Addr} {d : D} {xs : List D} (r : RD K G ι d (.ref a)) : ItC K G ι (Itl K a) xs [(d, xs)] := by
  have key : ∀ {G' : Hp} {ι' : List Addr} {H : Hp} {h : List Ob}, Up G ι G' ι' → Hs K G' ι' H h → Chk h [(d, xs)] → ∃ vs, SqL K H a vs ∧ RDs K G' ι' xs vs := fun u s c => by
    obtain ⟨b, vs, e, h1, h2⟩ := lsq_rd s (r.up u) (c (d, xs) (List.mem_singleton.mpr rfl))
    cases e
    exact ⟨vs, h1, h2⟩
  refine ⟨fun G' ι' H h u s c i d e => ?_, fun G' ι' H h u s c => ?_⟩
  · obtain ⟨vs, hs, rr⟩ := key u s c
    obtain ⟨v, h1, h2⟩ := rr.get e
    refine ⟨⟨vs, v, hs, h1⟩, fun x H' y => ?_⟩
    obtain ⟨rfl, y⟩ := y
    have e2 := y vs hs
    rw [h1] at e2
    cases e2
    exact ⟨G', Same.refl _, Same.refl _, s, h2⟩
  · obtain ⟨vs, hs, rr⟩ := key u s c
    exact ⟨vs, hs, by rw [rr.1]; exact Nat.le_refl _⟩
theorem itELC {a : Addr} {d : D} {xs : List D} (r : RD K G ι d (.ref a)) : ItC K G ι (Ite K a) (enumL xs) [(d, xs)] := by
  have key : ∀ {G' : Hp} {ι' : List Addr} {H : Hp} {h : List Ob}, Up G ι G' ι' → Hs K G' ι' H h → Chk h [(d, xs)] → ∃ vs, SqL K H a vs ∧ RDs K G' ι' xs vs := fun u s c => by
    obtain ⟨b, vs, e, h1, h2⟩ := lsq_rd s (r.up u) (c (d, xs) (List.mem_singleton.mpr rfl))
    cases e
    exact ⟨vs, h1, h2⟩
  refine ⟨fun G' ι' H h u s c i d e => ?_, fun G' ι' H h u s c => ?_⟩
  · obtain ⟨vs, hs, rr⟩ := key u s c
    unfold enumL at e
    rw [List.getElem?_mapIdx] at e
    obtain ⟨x, e1, rfl⟩ := Option.map_eq_some_iff.mp e
    obtain ⟨v, h1, h2⟩ := rr.get e1
    refine ⟨⟨vs, v, hs, h1⟩, fun z H' y => ?_⟩
    obtain ⟨T, x', rfl, n, rfl, y⟩ := y
    have e2 := y vs hs
    rw [h1] at e2
    cases e2
    exact new_pair s n (.int _) h2
  · obtain ⟨vs, hs, rr⟩ := key u s c
    exact ⟨vs, hs, by rw [rr.1]; unfold enumL; simp⟩
theorem itZC {a b : Addr} {d d' : D} {xs ys : List D} (r : RD K G ι d (.ref a)) (r' : RD K G ι d' (.ref b)) : ItC K G ι (Itz K a b) (zipL xs ys) [(d, xs), (d', ys)] := by
  have key : ∀ {G' : Hp} {ι' : List Addr} {H : Hp} {h : List Ob}, Up G ι G' ι' → Hs K G' ι' H h → Chk h [(d, xs), (d', ys)] → ∃ vs us, SqL K H a vs ∧ RDs K G' ι' xs vs ∧ SqL K H b us ∧ RDs K G' ι' ys us := fun u s c => by
    obtain ⟨b1, vs, e, h1, h2⟩ := lsq_rd s (r.up u) (c (d, xs) (by simp))
    obtain ⟨b2, us, e', h3, h4⟩ := lsq_rd s (r'.up u) (c (d', ys) (by simp))
    cases e
    cases e'
    exact ⟨vs, us, h1, h2, h3, h4⟩
  refine ⟨fun G' ι' H h u s c i d e => ?_, fun G' ι' H h u s c => ?_⟩
  · obtain ⟨vs, us, hs, rr, hs2, tt⟩ := key u s c
    unfold zipL at e
    rw [List.getElem?_map] at e
    obtain ⟨p, e1, rfl⟩ := Option.map_eq_some_iff.mp e
    rw [List.getElem?_zip_eq_some] at e1
    obtain ⟨v, h1, h2⟩ := rr.get e1.1
    obtain ⟨w, h3, h4⟩ := tt.get e1.2
    refine ⟨⟨vs, us, v, w, hs, hs2, h1, h3⟩, fun z H' y => ?_⟩
    obtain ⟨T, x', y', rfl, n, rfl, z1, z2⟩ := y
    have q1 := z1 vs hs
    have q2 := z2 us hs2
    rw [h1] at q1
    rw [h3] at q2
    cases q1
    cases q2
    exact new_pair s n h2 h4
  · obtain ⟨vs, us, hs, rr, hs2, tt⟩ := key u s c
    exact ⟨vs, us, hs, hs2, by rw [rr.1, tt.1]; unfold zipL; simp; omega⟩
end
def seqC (f : M D) : M (List D × List (D × List D)) := bnd f fun d => lft fun h => match d with
  | .tup xs => some (xs, [])
  | d => (lsqOf h d).map fun xs => (xs, [(d, xs)])
def enumC (f : M (List D)) : M (List D × List (D × List D)) := bnd f fun ds => lft fun h => match ds with
  | [.tup xs] => some (enumL xs, [])
  | [d] => (lsqOf h d).map fun xs => (enumL xs, [(d, xs)])
  | _ => none
def zipC (f : M (List D)) : M (List D × List (D × List D)) := bnd f fun ds => lft fun h => match ds with
  | [x, y] => match lsqOf h x, lsqOf h y with
    | some xs, some ys => some (zipL xs ys, [(x, xs), (y, ys)])
    | _, _ => none
  | _ => none
section
variable {X : Cx} {C : Ct} {tg it : Expr}
theorem ic_seq {f : M D} (p : PI X tg it (iSeq C.K (tF C f))) : PI X tg it (tFIC C (seqC f)) := imI p fun σ H R h => by
  obtain ⟨G, ι, en, k, h⟩ := h
  refine ⟨G, ι, en, k, PX.imp h.bnd fun d e1 G1 ι1 H1 u1 k1 q1 v r => ?_⟩
  obtain ⟨dc, hd, q⟩ := q1.lft
  split at hd
  · rename_i xs
    cases hd
    cases r with
    | tup hh l ee => exact ⟨_, rfl, .inr ⟨⟨_, sqT_at (fun o z => k1.hs.s _ o z) hh⟩, q.now k1 _ (itT hh ⟨l, ee⟩).toC⟩⟩
  · obtain ⟨xs, hx, rfl⟩ := Option.map_eq_some_iff.mp hd
    obtain ⟨a, vs, rfl, h1, h2⟩ := lsq_rd k1.hs r hx
    exact ⟨a, rfl, .inl ⟨⟨vs, h1⟩, q.now k1 _ (itLC r)⟩⟩
theorem ic_enum {f : M (List D)} (p : PI X tg it (iEnumA C.K (tFA C f))) : PI X tg it (tFIC C (enumC f)) := imI p fun σ H R h => by
  obtain ⟨G, ι, en, k, h⟩ := h
  refine ⟨G, ι, en, k, PX.imp h.bnd fun ds e1 G1 ι1 H1 u1 k1 q1 vs r => ?_⟩
  obtain ⟨dc, hd, q⟩ := q1.lft
  split at hd
  · rename_i xs
    cases hd
    obtain ⟨v, rfl, r1⟩ := r.one_of
    cases r1 with
    | tup hh l ee => exact ⟨_, _, rfl, .inr ⟨sqT_at (fun o z => k1.hs.s _ o z) hh, q.now k1 _ (itET hh ⟨l, ee⟩).toC⟩⟩
  · rename_i d _
    obtain ⟨v, rfl, r1⟩ := r.one_of
    obtain ⟨ys, hy, rfl⟩ := Option.map_eq_some_iff.mp hd
    obtain ⟨a, us, rfl, h1, h2⟩ := lsq_rd k1.hs r1 hy
    exact ⟨a, us, rfl, .inl ⟨h1, q.now k1 _ (itELC r1)⟩⟩
  · cases hd
theorem ic_zip {f : M (List D)} (p : PI X tg it (iZip C.K (tFA C f))) : PI X tg it (tFIC C (zipC f)) := imI p fun σ H R h => by
  obtain ⟨G, ι, en, k, h⟩ := h
  refine ⟨G, ι, en, k, PX.imp h.bnd fun ds e1 G1 ι1 H1 u1 k1 q1 vs r => ?_⟩
  obtain ⟨dc, hd, q⟩ := q1.lft
  split at hd
  · rename_i x y
    split at hd
    · rename_i xs ys hx hy
      cases hd
      obtain ⟨v, w, rfl, r1, r2⟩ := r.two_of
      obtain ⟨a, us, rfl, h1, h2⟩ := lsq_rd k1.hs r1 hx
      obtain ⟨b, ws, rfl, h3, h4⟩ := lsq_rd k1.hs r2 hy
      exact ⟨_, _, _, _, rfl, h1, h3, q.now k1 _ (itZC r1 r2)⟩
    · cases hd
  · cases hd
end
end Fv


set_option Elab.async false
set_option linter.all false
set_option maxRecDepth 100000
set_option maxHeartbeats 4000000
set_option autoImplicit false
/-! ### rules by which loops over changing lists are reckoned -/
namespace Fv
open PySem PySem.Spec PyProof.Rows L2 Bm
section
variable {h : List Ob}
@[simp] theorem chk_nil : Chk h [] = True := by simp [Chk]
@[simp] theorem chk_cons (d : D) (xs : List D) (ch : List (D × List D)) : Chk h ((d, xs) :: ch) = (lsqOf h d = some xs ∧ Chk h ch) := by simp [Chk]
@[simp] theorem x_forMC (fi : M (List D × List (D × List D))) (b : D → En → Option En) (body : M Fl) (e : En) : forMC fi b body e = bnd fi (fun dc => forC b body dc.2 dc.1) e := rfl
open Classical in
@[simp] theorem x_forC0 (b : D → En → Option En) (body : M Fl) (ch : List (D × List D)) (e : En) : forC b body ch [] e = if Chk e.h ch then .ok .nx e else .stuck := rfl
open Classical in
@[simp] theorem x_forC1 (b : D → En → Option En) (body : M Fl) (ch : List (D × List D)) (d : D) (ds : List D) (e : En) : forC b body ch (d :: ds) e = if Chk e.h ch then (match b d e with
    | some e1 => match body e1 with
      | .ok .nx e2 => forC b body ch ds e2
      | .ok .ct e2 => forC b body ch ds e2
      | .ok .bk e2 => .ok .nx e2
      | r => r
    | none => .stuck)
    else .stuck := rfl
@[simp] theorem x_zipC (f : M (List D)) (e : En) : zipC f e = bnd f (fun ds => lft fun h => match ds with
  | [x, y] => match lsqOf h x, lsqOf h y with
    | some xs, some ys => some (zipL xs ys, [(x, xs), (y, ys)])
    | _, _ => none
  | _ => none) e := rfl
@[simp] theorem x_augI (g : List Ob → D → D → Option D) (fo fi f : M D) (e : En) : augI g fo fi f e = bnd fo (fun o => bnd fi fun i => bnd (lft fun h => match lstOf h o with
    | some xs => match i with
      | .int j => atI xs j
      | _ => none
    | none => none) fun x => bnd f fun y => bnd (lft fun h => g h x y) fun v e => match setItem e.h o i v with
  | some h' => .ok .nx ⟨e.ρ, h'⟩
  | none => .stuck) e := rfl
end
theorem lc_ok {t : Tg} {vs : List Nat} {fi : M (List D)} {tt : M Bool} {f : M D} {e : En} {ds : List D} {g : D → D} (qi : fi e = .ok ds e) (hl : ds.length ≤ 1000000)
    (k : ∀ d ∈ ds, ∃ ρ1, t.put d (wipeD e.ρ vs) = some ρ1 ∧ ∀ h', tt ⟨ρ1, h'⟩ = .ok true ⟨ρ1, h'⟩ ∧ f ⟨ρ1, h'⟩ = .ok (g d) ⟨ρ1, h'⟩) : lcP t vs fi tt f e = .ok (.ref e.h.length) ⟨e.ρ, e.h ++ [.lst (ds.map g)]⟩ := by
  unfold lcP bnd
  rw [qi]
  dsimp only
  rw [lc_all (g := g) (by simpa using hl) k]
  simp
end Fv


set_option Elab.async false
set_option linter.all false
set_option maxRecDepth 100000
set_option maxHeartbeats 4000000
set_option autoImplicit false
/-! A lambda with one parameter that stands for a number, never named: lambda a=0: body, handed to a def. -/
namespace LamY
open PySem PySem.Spec PyProof.Rows L2 LamX
section
variable {X : Cx} {pins : List (Addr × Obj)} {σ : L2.St} {H : Hp} {s : Shared}
theorem make {T : List (Addr × Str)} {c P : Addr} {params : Arguments} {body : Expr} {scope : Scope} {pos p0 : Pos} {i : Int} {j : Nat} {E : Value → Shared → Prop} {Q : Value → Shared → Prop} (I : Inv X pins σ H s) (TB : TabB X.base X.mg c P) (hcode : X.env.code = .ref c)
    (hm : (P, X.env.qual ++ "<lambda>") ∈ T) (hu : ∀ p ∈ T, p.1 = P → p.2 = X.env.qual ++ "<lambda>") (hT : Tabs T H) (hk0 : params.kw_defaults = []) (hd : params.defaults = [.Constant (.int i) j p0]) (hfree : ∀ y ∈ scope.names, y.2 = .free → ∃ c, X.env.cells.lookup y.1 = some c)
    (h : ∀ (f c' T0 : Addr) (dv doc pm ctv : Value) (H1 : Hp) (s' : Shared), Inv X pins σ H1 s' → ExtN H H1 → Tabs T H1 →
      s'.heap.get? f = some (PySem.W.kdv_obj "<lambda>" (X.env.qual ++ "<lambda>") params (.expr body) scope (cloFrom X.env.cells scope.names []) (.ref T0) doc pm c' ctv) → s'.heap.get? T0 = some (PySem.W.kdv_tup [dv]) → H1 T0 = none → T0 ∉ frs X.stack →
      H1 f = none → f ∉ frs X.stack → H1 c' = some (CodeO c' (X.env.qual ++ "<lambda>")) → Q (.ref f) s') :
    wpAny (model X.prog X.w) X.A (eval (.Lambda params body scope pos) X.env) Q E s := by
  obtain ⟨ps, hP, ht, ha⟩ := hT _ hm
  refine PySem.W.kdv_lam (by rw [hd]; rfl) hk0 ?_
  rw [hd]
  refine PySem.W.kdv_all1 (wpAny_Constant_int (PySem.W.kdv_all0 ?_))
  rw [makeFunction_eq]
  simp only [List.zip_nil_right, List.filterMap_nil, List.isEmpty_nil, if_true, pure_bind, List.isEmpty_cons, Bool.false_eq_true, if_false]
  refine wpAny_bind (wpAny_newTextTuple ?_)
  have J : Inv X pins σ H { s with heap := s.heap.push (PySem.W.kdv_tup [Value.int i s.toks]), toks := s.toks + 1 } := I.kept fun b o e => Heap.get?_push_of_some _ e
  have h0 : (s.heap.push (PySem.W.kdv_tup [Value.int i s.toks])).get? s.heap.objs.size = some (PySem.W.kdv_tup [Value.int i s.toks]) := Heap.get?_push_size _ rfl
  have n0 : H s.heap.objs.size = none := I.hok.fresh (Nat.le_refl _)
  have bP : (s.heap.push (PySem.W.kdv_tup [Value.int i s.toks])).BuiltinsAt X.mg P := TB.bm.keeps J.bk
  have hP' : (s.heap.push (PySem.W.kdv_tup [Value.int i s.toks])).get? P = some { cls := .none, data := .fields ps } := J.hok P _ hP
  have nofr0 : ∀ f, s.heap.objs.size ≤ f → f ∉ frs X.stack := fun f hf z => by
    rcases List.mem_cons.mp (I.stkSub _ z) with e | e
    · have h1 := I.lt
      rw [← e] at h1
      exact Nat.lt_irrefl _ (Nat.lt_of_lt_of_le h1 hf)
    · exact I.nofs hf e
  have nofr : ∀ f, (s.heap.push (PySem.W.kdv_tup [Value.int i s.toks])).objs.size ≤ f → f ∉ frs X.stack := fun f hf z => by
    rcases List.mem_cons.mp (J.stkSub _ z) with e | e
    · have h1 := J.lt
      rw [← e] at h1
      exact Nat.lt_irrefl _ (Nat.lt_of_lt_of_le h1 hf)
    · exact J.nofs hf e
  have lt0 : s.heap.objs.size < (s.heap.push (PySem.W.kdv_tup [Value.int i s.toks])).objs.size := Heap.lt_size h0
  cases hc : codeAmong pos ps.toList with
  | none =>
    refine PySem.W.kdv_makeTail (s := { s with heap := s.heap.push (PySem.W.kdv_tup [Value.int i s.toks]), toks := s.toks + 1 }) (mg := X.mg) (c := c) (P := P) (ps := ps) (closure_ok hfree) I.ok.glob (I.mod.glob.keeps J.bk) hcode (TB.code.keeps J.bk) hP' ht hc TB.gP bP fun c' ctv doc h' tk hx hge hlt hrec htb => ?_
    obtain ⟨c2, oc, vs, t, e2, hoc, hd, hv⟩ := hrec
    cases e2
    have hsz : (s.heap.push (PySem.W.kdv_tup [Value.int i s.toks])).objs.size ≤ h'.objs.size := Nat.le_trans hge (Nat.le_of_lt hlt)
    have nC : H c' = none := J.hok.fresh hge
    have I1 := inv_table (t' := tk) (more := #[rawInt pos.line, rawInt pos.col, .ref c']) (h' := h'.push (PySem.W.kdv_obj "<lambda>" (X.env.qual ++ "<lambda>") params (.expr body) scope (cloFrom X.env.cells scope.names []) (.ref s.heap.objs.size) doc ((X.mg "__name__").getD .none) c' ctv)) J hP
      (fun b o hb e => Heap.get?_push_of_some _ (hx b o hb e)) (Heap.get?_push_of_some _ htb) hge ⟨oc, vs, t, Heap.get?_push_of_some _ hoc, hd, hv⟩
    have hE : ExtN H (upd (upd H P (.tbl (ps ++ #[rawInt pos.line, rawInt pos.col, .ref c']))) c' (CodeO c' (X.env.qual ++ "<lambda>"))) := fun b o e n => by
      rw [upd_ne (ne_of_none e nC), upd_ne (fun z => n ps (Option.some.inj (e.symm.trans (by rw [z]; exact hP))))]
      exact e
    have eL : (ps ++ #[rawInt pos.line, rawInt pos.col, .ref c']).toList = ps.toList ++ [rawInt pos.line, rawInt pos.col, .ref c'] := by simp
    have nP0 : s.heap.objs.size ≠ P := fun z => by
      rw [z, hP] at n0
      cases n0
    refine h h'.objs.size c' s.heap.objs.size _ doc ((X.mg "__name__").getD .none) ctv _ _ I1 hE (fun p hp => ?_) (Heap.get?_push_size _ rfl) (Heap.get?_push_of_some _ (hx _ _ nP0 h0)) ?_ (nofr0 _ (Nat.le_refl _)) ?_ (nofr _ hsz) upd_same
    · by_cases hb : p.1 = P
      · rw [hu p hp hb, hb]
        refine ⟨_, by rw [upd_ne (ne_of_none hP nC), upd_same], by rw [eL]; exact PySem.TriplesOk_snoc _ _ _ _ ht, fun p' cv hcv => ?_⟩
        rw [eL] at hcv
        rcases among_app _ ht hcv with z | z
        · obtain ⟨c0, e1, e2⟩ := ha p' cv z
          exact ⟨c0, e1, hE _ _ e2 codeO_ne⟩
        · exact ⟨c', z, upd_same⟩
      · obtain ⟨ps', a1, a2, a3⟩ := hT p hp
        refine ⟨ps', by rw [upd_ne (ne_of_none a1 nC), upd_ne hb]; exact a1, a2, fun p' cv hcv => ?_⟩
        obtain ⟨c0, e1, e2⟩ := a3 p' cv hcv
        exact ⟨c0, e1, hE _ _ e2 codeO_ne⟩
    · have n1 : s.heap.objs.size ≠ c' := Nat.ne_of_lt (Nat.lt_of_lt_of_le lt0 hge)
      rw [upd_ne n1, upd_ne nP0]
      exact n0
    · have n1 : h'.objs.size ≠ c' := Nat.ne_of_gt hlt
      have n2 : h'.objs.size ≠ P := Nat.ne_of_gt (Nat.lt_of_lt_of_le (Heap.lt_size hP') hsz)
      rw [upd_ne n1, upd_ne n2]
      exact J.hok.fresh hsz
  | some cv =>
    obtain ⟨c', e, hco⟩ := ha pos cv hc
    subst e
    refine PySem.W.kdv_makeTailHit (s := { s with heap := s.heap.push (PySem.W.kdv_tup [Value.int i s.toks]), toks := s.toks + 1 }) (mg := X.mg) (c := c) (P := P) (ps := ps) (closure_ok hfree) I.ok.glob (I.mod.glob.keeps J.bk) hcode (TB.code.keeps J.bk) hP' ht hc bP fun ctv doc h' tk hx hsz => ?_
    have I1 : Inv X pins σ H { s with heap := h'.push (PySem.W.kdv_obj "<lambda>" (X.env.qual ++ "<lambda>") params (.expr body) scope (cloFrom X.env.cells scope.names []) (.ref s.heap.objs.size) doc ((X.mg "__name__").getD .none) c' ctv), toks := tk } := J.kept fun b o e => Heap.get?_push_of_some _ (hx b o e)
    exact h h'.objs.size c' s.heap.objs.size _ doc ((X.mg "__name__").getD .none) ctv H _ I1 (ExtN.refl H) hT (Heap.get?_push_size _ rfl) (Heap.get?_push_of_some _ (hx _ _ h0)) n0 (nofr0 _ (Nat.le_refl _)) (J.hok.fresh hsz) (nofr _ hsz) hco
end
/-- its own names are none of the maker's -/
structure LamP (N : List Str) (sc scope : Scope) (a : Str) : Prop where
  kind : scope.kind = .function
  co : scope.isCoroutine = false
  gen : scope.isGenerator = false
  own : ∀ y ∈ scope.names, (y.2 = .local → y.1 ∉ N) ∧ y.2 ≠ .cell
  free : ∀ y ∈ scope.names, y.2 = .free → sc.names.lookup y.1 = some .cell ∨ sc.names.lookup y.1 = some .free
  par : scope.names.lookup a = some .local
def lamPB (N : List Str) (sc scope : Scope) (a : Str) : Bool :=
  decide (scope.kind = .function) && !scope.isCoroutine && !scope.isGenerator && decide (scope.names.lookup a = some .local) && scope.names.all fun y => (!decide (y.2 = .local) || !decide (y.1 ∈ N)) && !decide (y.2 = .cell) && (!decide (y.2 = .free) || decide (sc.names.lookup y.1 = some .cell) || decide (sc.names.lookup y.1 = some .free))
theorem lamP_by {N : List Str} {sc scope : Scope} {a : Str} (h : lamPB N sc scope a = true) : LamP N sc scope a := by
  unfold lamPB at h
  simp only [Bool.and_eq_true, Bool.or_eq_true, Bool.not_eq_true', decide_eq_true_eq, decide_eq_false_iff_not, List.all_eq_true] at h
  obtain ⟨⟨⟨⟨h1, h2⟩, h3⟩, h5⟩, h4⟩ := h
  refine ⟨h1, h2, h3, fun y hy => ⟨fun e => ?_, (h4 y hy).1.2⟩, fun y hy e => ?_, h5⟩
  · rcases (h4 y hy).1.1 with z | z
    · exact absurd e z
    · exact z
  · rcases (h4 y hy).2 with (z | z) | z
    · exact absurd e z
    · exact .inl z
    · exact .inr z
theorem LamP.has {X : Cx} {N : List Str} {scope : Scope} {a : Str} (L : LamP N X.env.scope scope a) (ok : X.Ok) : ∀ y ∈ scope.names, y.2 = .free → ∃ c, X.env.cells.lookup y.1 = some c := fun y hy e => by
  rcases L.free y hy e with k | k
  · exact ok.has _ (.inl k)
  · exact ok.has _ (.inr k)
section
variable {X : Cx} {pins : List (Addr × Obj)} {σ : L2.St} {H HZ : Hp} {s s1 : Shared}
theorem start {A : Around} {outer : List Env} {E : XK} {scope : Scope} {a : Str} {f c' : Addr} {h₁ : Heap} {tk : Nat} {bs : List (Str × Value)} (I : Inv X pins σ H s) (L : LamP X.N X.env.scope scope a) (e0 : Env0 X.prog X.w X.K X.mg X.base A outer s1 HZ) (hd : A.handled = none)
    (un : Un (frs X.stack) [] H HZ s.heap s1.heap) (hns : h₁.Ns s1.heap.objs.size fun y => bs.reverse.lookup y) (kp : ∀ b o, s1.heap.get? b = some o → h₁.get? b = some o) :
    Inv (lamCx X A outer s1 HZ E scope f c') [] σ HZ { s1 with heap := h₁, toks := tk } := by
  have hfree := L.has I.ok
  have cm : ∀ {y c}, (cloFrom X.env.cells scope.names []).lookup y = some c → X.env.cells.lookup y = some c := fun {y c} e => by
    rcases cloFrom_mem (PySem.mem_of_lookup e) with hm | ⟨h1, h2⟩
    · cases hm
    · obtain ⟨c1, hc⟩ := hfree _ h1 rfl
      have hc : X.env.cells.lookup y = some c1 := hc
      have e2 : c = c1 := by
        rw [h2, hc] <;> rfl
      rw [e2]
      exact hc
  have look : ∀ {y}, scope.names.lookup y = some .free → ∃ c, (cloFrom X.env.cells scope.names []).lookup y = some c := fun {y} hl => by
    have hy : (y, NameKind.free) ∈ scope.names := PySem.mem_of_lookup hl
    exact mem_lookup (cloFrom_has (cells := X.env.cells) (acc := []) hy)
  have cellK : ∀ {c : Addr} {v : Option Value}, H c = none → s.heap.IsCell c v → h₁.IsCell c v := fun {c v} n ⟨o, ho, hd⟩ => by
    obtain ⟨sl, q⟩ := un.any ho n (by simp)
    exact ⟨_, kp _ _ q, hd⟩
  have noA : ∀ b : Addr, b ∉ (lamCx X A outer s1 HZ E scope f c').ex := fun b z => absurd (show b ∈ ([] : List Addr) from z) (by simp)
  refine ⟨⟨e0.mod, L.kind, rfl, rfl, Nat.le_refl _, fun y z c e1 e2 => I.ok.inj y z c (cm e1) (cm e2), fun y hy => ?_, fun y c z _ => ?_, fun _ => hd, Around.frames_deeper e0.frames, .inr ⟨rfl, rfl⟩, fun b z => absurd z (noA b), e0.bs, e0.bsz, fun b _ _ => noA b,
      fun b z => absurd z (noA b), e0.funs, e0.frf⟩,
    rfl, e0.bare, Un.kept kp, ⟨_, hns, fun i y v e1 e2 e3 => ?_⟩, fun y c e => ?_, e0.hok.fresh (Nat.le_refl _), fun y c e => ?_, fun q hq => absurd (show q ∈ ([] : List (Addr × Obj)) ++ [] from hq) (by simp), e0.hok.kept kp, I.len⟩
  · have hy : scope.names.lookup y = some .cell ∨ scope.names.lookup y = some .free := hy
    rcases hy with hy | hy
    · exact absurd rfl (L.own _ (PySem.mem_of_lookup hy)).2
    · exact look hy
  · have z : false = true := z
    cases z
  · have e3 : Vis scope y := e3
    rcases e3 with k | k | k
    · exact absurd (List.mem_of_getElem? (show X.N[i]? = some y from e1)) ((L.own _ (PySem.mem_of_lookup k)).1 rfl)
    · exact absurd rfl (L.own _ (PySem.mem_of_lookup k)).2
    · obtain ⟨m, hn, hl⟩ := I.loc
      have hvis : Vis X.env.scope y := (L.free _ (PySem.mem_of_lookup k) rfl).elim (fun k => .inr (.inl k)) (fun k => .inr (.inr k))
      obtain ⟨w', r, q⟩ := hl i y v e1 e2 hvis
      obtain ⟨c2, h2⟩ := look k
      refine ⟨w', r, .inr ⟨.inr k, c2, h2, ?_⟩⟩
      have c1 := cm h2
      rcases q with ⟨k', _⟩ | ⟨_, c3, e', z⟩
      · have k' : X.env.scope.names.lookup y = some .local := k'
        rcases L.free _ (PySem.mem_of_lookup k) rfl with k2 | k2 <;> rw [show X.env.scope.names.lookup y = _ from k2] at k' <;> cases k'
      · rw [c1] at e'
        cases e'
        exact cellK (I.freeC y _ c1) z
  · obtain ⟨w', z⟩ := I.cell y c (cm e)
    exact ⟨w', cellK (I.freeC y c (cm e)) z⟩
  · obtain ⟨v, o, ho, hd⟩ := I.cell y c (cm e)
    exact un.free c o ho (I.freeC y c (cm e)) (by simp)
theorem pe_act {CXg : CXT} {Eg : XK} {Ng : List Str} {qg : Str} {sg : Scope} {g f c' T0 : Addr} {cdg dv doc pm ctv : Value} {params : Arguments} {body : Expr} {scope : Scope} {k i : Nat} {a b0 : Str} {pn : List (Addr × Obj)} {xe : Value → Shared → Prop} {W : WX} {E : XK} {tb : TE} {p1 p2 : Pos}
    (I : Inv X pins σ H s) (L : LamP X.N X.env.scope scope b0) (hf : s.heap.get? f = some (PySem.W.kdv_obj "<lambda>" (X.env.qual ++ "<lambda>") params (.expr body) scope (cloFrom X.env.cells scope.names []) (.ref T0) doc pm c' ctv)) (h0 : s.heap.get? T0 = some (PySem.W.kdv_tup [dv])) (n0 : H T0 = none) (f0 : T0 ∉ frs X.stack) (hfn : H f = none) (hfr : f ∉ frs X.stack)
    (hbind : ∃ kk : Option (Array Value) → Sem (List (Str × Value)), bindArgs (PySem.W.kdv_fn "<lambda>" (X.env.qual ++ "<lambda>") params (.expr body) scope (cloFrom X.env.cells scope.names []) (.ref T0) doc pm (.ref c') ctv) ⟨[], []⟩ = seqItems? (.ref T0) >>= kk ∧ kk (some [dv].toArray) = pure [(b0, dv)])
    (tk : Takes ((cxOf CXg X.prog X.w X.K X.mg X.base Ng qg sg g cdg X.A X.stack s H Eg).tr pn xe) W) (hW : ∀ cls d σ' H', E cls d H' → W cls d σ' H') (hr : Room (k + 1) (X.A.deeper (envOfC qg sg s.heap.objs.size g cdg)))
    (hbody : ∀ (A : Around) (outer : List Env) (s : Shared) (H : Hp), Room k (A.deeper (lamEnv X scope s.heap.objs.size f c')) → PE (lamCx X A outer s H E scope f c') body tb)
    (hN : Ng[i]? = some a) (hv : Vis sg a) (hd : (a == ("__debug__" : Str)) = false := by decide) (hcd : (a == ("__classdict__" : Str)) = false := by decide) :
    PE ((cxOf CXg X.prog X.w X.K X.mg X.base Ng qg sg g cdg X.A X.stack s H Eg).tr pn xe) (.Call (.Name a p1) [] [] p2)
      (fun σZ HZ Q => σZ[i]? = some (some (.ref f)) ∧ HZ c' = some (CodeO c' (X.env.qual ++ "<lambda>")) ∧ tb σ HZ Q) := by
  refine ⟨fun pinsZ sZ σZ HZ Q IZ h => ?_⟩
  obtain ⟨hs, hc, ht⟩ := h
  refine wpAny_Call_Name_kw (thn ((pe_var (pos := p1) (i := i) hN hv hd hcd).run pinsZ sZ σZ HZ (fun v H1 => v = .ref f ∧ H1 = HZ) IZ ⟨.ref f, hs, rfl, rfl⟩) fun u s1 ⟨v, H1, I1, r1, q1⟩ => ?_)
  obtain ⟨ev, eH⟩ := q1
  subst ev
  rw [eH] at I1
  obtain rfl : u = Value.ref f := r1
  have of1 : s1.heap.get? f = some (PySem.W.kdv_obj "<lambda>" (X.env.qual ++ "<lambda>") params (.expr body) scope (cloFrom X.env.cells scope.names []) (.ref T0) doc pm c' ctv) := I1.base.keep f _ hf hfn hfr (fun z => nomatch (show f ∈ ([] : List Addr) from z))
  have of0 : s1.heap.get? T0 = some (PySem.W.kdv_tup [dv]) := I1.base.keep T0 _ h0 n0 f0 (fun z => nomatch (show T0 ∈ ([] : List Addr) from z))
  refine PySem.W.callWith_F0 ⟨_, _, _, _, of1⟩ ?_
  have un : Un (frs X.stack) [] H HZ s.heap s1.heap := I1.base
  obtain ⟨⟨oc, vs, t, hoc, hdc, hvc⟩, _, _⟩ := I1.hok c' _ hc
  have rc : codeAny (model X.prog X.w) (X.A.deeper (envOfC qg sg s.heap.objs.size g cdg)) (.call (.ref f) ⟨[], []⟩) (CR (L2.CX X.prog X.w) (envOfC qg sg s.heap.objs.size g cdg :: X.stack) X.prog X.w HZ s1 Q E) s1 := by
    obtain ⟨kk, hb1, hb2⟩ := hbind
    refine PySem.W.kla_callFunE hr.depth of1 rfl L.co L.gen rfl ⟨c', oc, vs, t, rfl, hoc, hdc, hvc⟩ ?_
    refine BindsTo.of_defaults (T := T0) rfl of0 rfl hb1 hb2 _ _ _ _ ?_
    refine wpAny_newFunctionEnv (fun y hy => (L.own y hy).2) (fun y hy => by rw [List.mem_singleton.mp hy]; exact L.par) (fun h₁ hns hsb => ⟨I1.nolimit.fresh _ hsb, ?_⟩) L.kind
    show codeAny _ _ (.expr body (lamEnv X scope s1.heap.objs.size f c')) _ _
    have kp : ∀ b o, s1.heap.get? b = some o → h₁.get? b = some o := fun b o e => hsb.extBut b o (Nat.ne_of_lt (Heap.lt_size e)) (Heap.get?_push_of_some _ e)
    have J : Inv (lamCx X (X.A.deeper (envOfC qg sg s.heap.objs.size g cdg)) (envOfC qg sg s.heap.objs.size g cdg :: X.stack) s1 HZ E scope f c') [] σ HZ { s1 with heap := h₁, toks := s1.toks + ([(b0, dv)] : List (Str × Value)).length } :=
      start I L I1.env0 hr.hd un hns kp
    refine PySem.W.kla_codeExpr (wpAny_mono ((hbody _ _ s1 HZ (hr.deeper _)).run [] _ _ HZ Q J ht) (fun v s' hq => ?_) fun e s' hq => hq)
    obtain ⟨w', H', J', rv, q⟩ := hq
    exact ⟨w', H', J'.os, J'.bare, J'.base, J'.hok, rv, q⟩
  have hx : Passes (L2.CX X.prog X.w) ((cxOf CXg X.prog X.w X.K X.mg X.base Ng qg sg g cdg X.A X.stack s H Eg).tr pn xe) E := passes_call tk hW
  refine wpAny_call (codeAny_mono rc fun r s' hq => ?_)
  cases r with
  | error e => exact hx pinsZ σZ HZ s1 e s' I1 hq
  | ok fl =>
    cases fl with
    | ret u => exact I1.after hq
    | next => exact False.elim hq
    | brk => exact False.elim hq
    | cont => exact False.elim hq
end
section
variable {X : Cx}
/-- x(lambda b=0: body) -/
theorem pe_lamcall {T : List (Addr × Str)} {TT : (XK → Hp → VK → Prop) → Hp → VK → Prop} {x a b0 : Str} {g c P : Addr} {k j : Nat} {i : Int} {pg : Arguments} {bg : List Stmt} {sg : Scope} {dV kV doc pm cdv ct oc : Value} {an od : Option Addr} {osl : Array (Option Value)} {Ng : List Str}
    {params : Arguments} {body : Expr} {scope : Scope} {t : XK → TE} {p p0 lpos pos : Pos} (hg : Gl X x) (hm : X.mg x = some (.ref g)) (hk : PySem.W.keepIn X.K (.ref g) = true)
    (lk : X.K.lookup g = some ⟨oc, od, .func (PySem.W.fnOf x x pg bg sg dV kV doc pm an cdv ct), osl⟩) (hcg : PySem.W.codeIn X.K cdv x = true) (hb : L2.Binds X.K (PySem.W.fnOf x x pg bg sg dV kV doc pm an cdv ct) [a] []) (Sg : FnScope Ng [a] sg) (hNg : Ng[0]? = some a) (hva : Vis sg a)
    (hG : GivesTo X Ng x sg g cdv bg a (X.env.qual ++ "<lambda>") TT)
    (TB : TabB X.base X.mg c P) (hcode : X.env.code = .ref c) (hmT : (P, X.env.qual ++ "<lambda>") ∈ T) (hu : ∀ p ∈ T, p.1 = P → p.2 = X.env.qual ++ "<lambda>") (hr : Room (k + 2) X.A) (L : LamP X.N X.env.scope scope b0) (hk0 : params.kw_defaults = []) (hd0 : params.defaults = [.Constant (.int i) j p0])
    (hbind : ∀ (q : Str) (cl : List (Str × Addr)) (dV doc pm cv ctv dv : Value), ∃ kk : Option (Array Value) → Sem (List (Str × Value)), bindArgs (PySem.W.kdv_fn "<lambda>" q params (.expr body) scope cl dV doc pm cv ctv) ⟨[], []⟩ = seqItems? dV >>= kk ∧ kk (some [dv].toArray) = pure [(b0, dv)])
    (hbody : ∀ (A : Around) (outer : List Env) (s : Shared) (H : Hp) (E : XK) (f c' : Addr), Room k (A.deeper (lamEnv X scope s.heap.objs.size f c')) → PE (lamCx X A outer s H E scope f c') body (t E))
    (hdb : (x == ("__debug__" : Str)) = false := by decide) (hd : (a == ("__debug__" : Str)) = false := by decide) (hcd : (a == ("__classdict__" : Str)) = false := by decide) :
    PE X (.Call (.Name x p) [.Lambda params body scope lpos] [] pos) (tLam T TT t) := by
  refine ⟨fun pins s σ H Q I h => ?_⟩
  obtain ⟨hT, h⟩ := h
  refine wpAny_Call_Name_kw (ld_glob I hg hm ?_ hdb)
  refine PySem.W.callWith_K (h₀ := X.base) I.ok.mod.kin hk ?_ (by rfl) (by rfl)
  show wpAny _ _ (spliced ((false, eval (.Lambda params body scope lpos) X.env) :: backTo pos (starEach [] X.env))) _ _ s
  refine Calls.spliced_cons (make I TB hcode hmT hu hT hk0 hd0 (L.has I.ok) fun f c' T0 dv doc' pm' ctv H1 s' I1 eN T1 hf h0 n0 f0 hfn hfr hco => ?_)
  refine Calls.spliced_nil ⟨I1.kIn, ?_⟩
  have rc : codeAny (model X.prog X.w) X.A (.call (.ref g) ⟨[.ref f], []⟩) (CR C8.CX0 X.stack X.prog X.w H1 s' Q C8.E0) s' := by
    refine run_ofS (N := Ng) (ps := [a]) (us := [.ref f]) (vs := [.ref f]) lk hcg Sg hr I1.env0 (hb s' [.ref f] I1.kIn rfl) (.cons rfl .nil) rfl fun hr' => ?_
    obtain ⟨t', ht', hq'⟩ := hG f c' s' H1 Q (fun E H' Q' => t E σ H' Q') (fun W pn xe E p1 p2 tk hW => pe_act (i := 0) I1 L hf h0 n0 f0 hfn hfr (hbind _ _ _ _ _ _ _ _) tk hW hr' (fun A outer s H hr2 => hbody A outer s H E f c' hr2) hNg hva hd hcd) hco (h H1 eN T1)
    exact ⟨t', ht'.nox, hq'⟩
  refine wpAny_call (codeAny_mono rc fun r s2 hq => ?_)
  cases r with
  | error e => exact (show False from hq).elim
  | ok fl =>
    cases fl with
    | ret u => exact I1.after hq
    | next => exact False.elim hq
    | brk => exact False.elim hq
    | cont => exact False.elim hq
end
end LamY


set_option autoImplicit false
set_option Elab.async false
set_option linter.all false
set_option maxRecDepth 100000
set_option maxHeartbeats 4000000
namespace Lk04
open PySem PySem.Spec PyProof.Rows L2 Bm
local macro_rules
  | `(tactic| array_get_dec) => `(tactic| first | refine ⟨_, rfl, ?_⟩ | refine ⟨_, _, rfl, rfl, ?_⟩ | refine ⟨rfl, ?_⟩ | refine ⟨_, _, rfl, ?_⟩ | refine ⟨⟨_, rfl⟩, ?_⟩ | refine iteDT (by decide) ?_ | refine iteDF (by decide) ?_ | refine iteBT (by decide) ?_ | refine iteBF (by decide) ?_ | refine ⟨_, _, rfl, rfl, ⟨by decide, by decide⟩, ?_⟩)
local macro_rules
  | `(tactic| and_intros) => `(tactic| (repeat (array_get_dec)))
section
def lawQ : Str := (envOfC "law" (defScope s_law) 0 0 .none).qual
abbrev lawT (K : PySem.W.Frag) : List (Addr × Str) := [((He.cT K ("law", none)).2, lawQ ++ "<lambda>")]
theorem pe_kind {X : Cx} {k j : Nat} {params : Arguments} {body : Expr} {scope : Scope} {t : XK → TE} {p lpos pos : Pos} (T : Txt X.K X.mg) (Df : Defs X.K) (TB : LamX.TabB X.base X.mg (He.cT X.K ("law", none)).1 (He.cT X.K ("law", none)).2)
    (hcode : X.env.code = .ref (He.cT X.K ("law", none)).1) (hq : X.env.qual = lawQ) (hr : Room j X.A) (hj : k + 2 ≤ j) (L : LamX.LamS X.env.scope scope) (hdef : defaultsOf params X.env = ([], []))
    (hbind : ∀ (q : Str) (cl : List (Str × Addr)) (pm cv ctv : Value), bindArgs (PySem.W.kla_fn "<lambda>" q params body scope cl pm cv ctv) ⟨[], []⟩ = pure [])
    (hbody : ∀ (A : Around) (outer : List Env) (s : Shared) (H : Hp) (E : XK) (f c' : Addr), Room k (A.deeper (LamX.lamEnv X scope s.heap.objs.size f c')) → PE (LamX.lamCx X A outer s H E scope f c') body (t E)) (hg : Gl X "_law_kind" := by rfl) :
    PE X (.Call (.Name "_law_kind" p) [.Lambda params body scope lpos] [] pos) (LamX.tLam (lawT X.K) (TKind X.K) t) := by
  obtain ⟨fd, F⟩ := Df.law_kind
  have b := F.bindsN (ps := ["_law_work"]) fun _ _ _ _ _ _ us hl => match us, hl with | [_], _ => rfl
  have kp := F.kp
  obtain ⟨oc, od, dV, kV, doc, pm, an, cdv, ct, osl, rfl, lk, hcd, _, _⟩ := F.ex
  have e : lawT X.K = [((He.cT X.K ("law", none)).2, X.env.qual ++ "<lambda>")] := by rw [hq]
  rw [e]
  exact LamX.pe_lamcall (TT := TKind X.K) hg T.g_law_kind kp lk hcd b sc_law_kind rfl (Or.inl rfl) (kind_gives T) TB hcode (List.mem_singleton.mpr rfl) (fun p hp _ => by rw [List.mem_singleton.mp hp]) (hr.mono hj) L hdef hbind hbody
end
section
theorem pe_kindD {X : Cx} {k j jj : Nat} {i : Int} {b0 : Str} {params : Arguments} {body : Expr} {scope : Scope} {t : XK → TE} {p p0 lpos pos : Pos} (T : Txt X.K X.mg) (Df : Defs X.K) (TB : LamX.TabB X.base X.mg (He.cT X.K ("law", none)).1 (He.cT X.K ("law", none)).2)
    (hcode : X.env.code = .ref (He.cT X.K ("law", none)).1) (hq : X.env.qual = lawQ) (hr : Room j X.A) (hj : k + 2 ≤ j) (L : LamY.LamP X.N X.env.scope scope b0) (hk0 : params.kw_defaults = []) (hd0 : params.defaults = [.Constant (.int i) jj p0])
    (hbind : ∀ (q : Str) (cl : List (Str × Addr)) (dV doc pm cv ctv dv : Value), ∃ kk : Option (Array Value) → Sem (List (Str × Value)), bindArgs (PySem.W.kdv_fn "<lambda>" q params (.expr body) scope cl dV doc pm cv ctv) ⟨[], []⟩ = seqItems? dV >>= kk ∧ kk (some [dv].toArray) = pure [(b0, dv)])
    (hbody : ∀ (A : Around) (outer : List Env) (s : Shared) (H : Hp) (E : XK) (f c' : Addr), Room k (A.deeper (LamX.lamEnv X scope s.heap.objs.size f c')) → PE (LamX.lamCx X A outer s H E scope f c') body (t E)) (hg : Gl X "_law_kind" := by rfl) :
    PE X (.Call (.Name "_law_kind" p) [.Lambda params body scope lpos] [] pos) (LamX.tLam (lawT X.K) (TKind X.K) t) := by
  obtain ⟨fd, F⟩ := Df.law_kind
  have b := F.bindsN (ps := ["_law_work"]) fun _ _ _ _ _ _ us hl => match us, hl with | [_], _ => rfl
  have kp := F.kp
  obtain ⟨oc, od, dV, kV, doc, pm, an, cdv, ct, osl, rfl, lk, hcd, _, _⟩ := F.ex
  have e : lawT X.K = [((He.cT X.K ("law", none)).2, X.env.qual ++ "<lambda>")] := by rw [hq]
  rw [e]
  exact LamY.pe_lamcall (TT := TKind X.K) hg T.g_law_kind kp lk hcd b sc_law_kind rfl (Or.inl rfl) (kind_gives T) TB hcode (List.mem_singleton.mpr rfl) (fun p hp _ => by rw [List.mem_singleton.mp hp]) (hr.mono hj) L hk0 hd0 hbind hbody
end
end Lk04


set_option autoImplicit false
set_option Elab.async false
set_option linter.all false
set_option maxRecDepth 100000
set_option maxHeartbeats 4000000
namespace Lk04
open PySem PySem.Spec PyProof.Rows L2 Bm Fv
section
variable {P : Program} {w : World} {K : PySem.W.Frag} {mg : Str → Option Value} {base : Heap}
theorem sc_is_whole : FnScope ["thing", "low", "high"] ["thing", "low", "high"] (defScope s_is_whole) := ⟨rfl, rfl, rfl, by decide +kernel, rfl, by decide +kernel, by decide +kernel⟩
noncomputable def B_is_whole : M Fl :=
  (retM (andV (cN isiD (consM (eV 0) (consM (ret (.typ "int")) nilM))) (andV (notV (cN isiD (consM (eV 0) (consM (ret (.typ "bool")) nilM)))) (chM leD leD (eV 1) (eV 0) (eV 2)))))
noncomputable def F_is_whole : Fun := defF 3 B_is_whole
set_option maxHeartbeats 16000000 in
theorem ok_is_whole (T : Txt K mg) (Df : Defs K) {f : Addr} {fd : FuncData} (F : FunD K "is_whole" "is_whole" (defArgs s_is_whole) (defBody s_is_whole) (defScope s_is_whole) [.int (0), .int (65535)] [] f fd) : FnOk P w K mg base (L2.CX P w) 1 f fd ["thing", "low", "high"] (spF K 3 F_is_whole) := by
  refine okF (k := 0) F sc_is_whole fun cdv A outer s H E Tb hr => ?_
  exact (s_one (s_ret (v_and (v_b s_isi (pe_callB call_isi rfl T.b_isinstance (by decide +kernel) (a_cons (v_var (pv 0)) (a_cons (v_con (pe_bltn (v := .ty "int") rfl T.b_int (by decide +kernel) rfl) (fun _ _ => .typ _)) a_nil)))) (v_and (v_not (v_b s_isi (pe_callB call_isi rfl T.b_isinstance (by decide +kernel) (a_cons (v_var (pv 0)) (a_cons (v_con (pe_bltn (v := .ty "bool") rfl T.b_bool (by decide +kernel) rfl) (fun _ _ => .typ _)) a_nil))))) (v_one (v_chain op_le op_le s_le s_le (v_var (pv 1)) (v_var (pv 0)) (v_var (pv 2))))))))
theorem fn_is_whole (T : Txt K mg) (Df : Defs K) : Fn P w K mg base (L2.CX P w) 1 "is_whole" (spF K 3 F_is_whole) [] := by
  obtain ⟨fd, F⟩ := Df.is_whole
  exact .of F T.g_is_whole (F.binds1 (ps := ["thing", "low", "high"]) 3 2 (by simp) rfl fun T kV doc pm an cdv ct us its h1 h2 => match us, h1, its, h2 with | [_, _, _], _, [_, _], _ => ⟨_, rfl, rfl⟩) (ok_is_whole T Df F)
theorem fn_is_whole_d1 (T : Txt K mg) (Df : Defs K) : Fn P w K mg base (L2.CX P w) 1 "is_whole" (spF K 3 F_is_whole) [.int (65535)] := by
  obtain ⟨fd, F⟩ := Df.is_whole
  exact .of F T.g_is_whole (F.binds1 (ps := ["thing", "low", "high"]) 2 1 (by simp) rfl fun T kV doc pm an cdv ct us its h1 h2 => match us, h1, its, h2 with | [_, _], _, [_, _], _ => ⟨_, rfl, rfl⟩) (ok_is_whole T Df F)
theorem fn_is_whole_d2 (T : Txt K mg) (Df : Defs K) : Fn P w K mg base (L2.CX P w) 1 "is_whole" (spF K 3 F_is_whole) [.int (0), .int (65535)] := by
  obtain ⟨fd, F⟩ := Df.is_whole
  exact .of F T.g_is_whole (F.binds1 (ps := ["thing", "low", "high"]) 1 0 (by simp) rfl fun T kV doc pm an cdv ct us its h1 h2 => match us, h1, its, h2 with | [_], _, [_, _], _ => ⟨_, rfl, rfl⟩) (ok_is_whole T Df F)
end
section
variable {P : Program} {w : World} {K : PySem.W.Frag} {mg : Str → Option Value} {base : Heap}
theorem sc_field : FnScope ["word", "at", "many"] ["word", "at", "many"] (defScope s_field) := ⟨rfl, rfl, rfl, by decide +kernel, rfl, by decide +kernel, by decide +kernel⟩
noncomputable def B_field : M Fl :=
  (retM (e2 andD (e2 shrD (eV 0) (eV 1)) (e2 subD (e2 shlD (ret (.int (1))) (eV 2)) (ret (.int (1))))))
noncomputable def F_field : Fun := defF 3 B_field
set_option maxHeartbeats 16000000 in
theorem ok_field (T : Txt K mg) (Df : Defs K) {f : Addr} {fd : FuncData} (F : FunD K "field" "field" (defArgs s_field) (defBody s_field) (defScope s_field) [] [] f fd) : FnOk P w K mg base (L2.CX P w) 1 f fd ["word", "at", "many"] (spF K 3 F_field) := by
  refine okF (k := 0) F sc_field fun cdv A outer s H E Tb hr => ?_
  exact (s_one (s_ret (v_op op_and s_and (v_op op_shr s_shr (v_var (pv 0)) (v_var (pv 1))) (v_op op_sub s_sub (v_op op_shl s_shl v_int (v_var (pv 2))) v_int))))
theorem fn_field (T : Txt K mg) (Df : Defs K) : Fn P w K mg base (L2.CX P w) 1 "field" (spF K 3 F_field) [] := by
  obtain ⟨fd, F⟩ := Df.field
  exact .of F T.g_field (bnd0 F fun _ _ _ _ _ _ us hl => match us, hl with | [_, _, _], _ => rfl) (ok_field T Df F)
end
section
variable {P : Program} {w : World} {K : PySem.W.Frag} {mg : Str → Option Value} {base : Heap}
theorem sc_signed : FnScope ["number", "many", "half"] ["number", "many"] (defScope s_signed) := ⟨rfl, rfl, rfl, by decide +kernel, rfl, by decide +kernel, by decide +kernel⟩
noncomputable def B_signed : M Fl :=
  (seqM (setM (e2 shlD (ret (.int (1))) (e2 subD (eV 1) (ret (.int (1))))) (putS 2))
  (retM (e2 subD (e2 andD (eV 0) (e2 subD (eV 2) (ret (.int (1))))) (e2 andD (eV 0) (eV 2)))))
noncomputable def F_signed : Fun := defF 3 B_signed
set_option maxHeartbeats 16000000 in
theorem ok_signed (T : Txt K mg) (Df : Defs K) {f : Addr} {fd : FuncData} (F : FunD K "signed" "signed" (defArgs s_signed) (defBody s_signed) (defScope s_signed) [] [] f fd) : FnOk P w K mg base (L2.CX P w) 1 f fd ["number", "many"] (spF K 2 F_signed) := by
  refine okF (k := 0) F sc_signed fun cdv A outer s H E Tb hr => ?_
  exact (s_cons (s_set (ps_set (i := 2) sc_signed.nd rfl (Or.inl rfl) (v_op op_shl s_shl v_int (v_op op_sub s_sub (v_var (pv 1)) v_int))))
  (s_one (s_ret (v_op op_sub s_sub (v_op op_and s_and (v_var (pv 0)) (v_op op_sub s_sub (v_var (pv 2)) v_int)) (v_op op_and s_and (v_var (pv 0)) (v_var (pv 2)))))))
theorem fn_signed (T : Txt K mg) (Df : Defs K) : Fn P w K mg base (L2.CX P w) 1 "signed" (spF K 2 F_signed) [] := by
  obtain ⟨fd, F⟩ := Df.signed
  exact .of F T.g_signed (bnd0 F fun _ _ _ _ _ _ us hl => match us, hl with | [_, _], _ => rfl) (ok_signed T Df F)
end
section
variable {P : Program} {w : World} {K : PySem.W.Frag} {mg : Str → Option Value} {base : Heap}
theorem sc_Part_init : FnScope ["self", "at", "many", "signs"] ["self", "at", "many", "signs"] (defScope s_Part_init) := ⟨rfl, rfl, rfl, by decide +kernel, rfl, by decide +kernel, by decide +kernel⟩
noncomputable def B_Part_init : M Fl :=
  (seqM (setF ["Part"] "at" (eV 0) (eV 1))
  (seqM (setF ["Part"] "many" (eV 0) (eV 2))
  (setF ["Part"] "signs" (eV 0) (eV 3))))
noncomputable def F_Part_init : Fun := defF 4 B_Part_init
set_option maxHeartbeats 16000000 in
theorem ok_Part_init (T : Txt K mg) (Df : Defs K) {f : Addr} {fd : FuncData} (F : FunD K "__init__" "Part.__init__" (defArgs s_Part_init) (defBody s_Part_init) (defScope s_Part_init) [.bl false] [] f fd) : FnOk P w K mg base (L2.CX P w) 1 f fd ["self", "at", "many", "signs"] (spF K 4 F_Part_init) := by
  refine okF (k := 0) F sc_Part_init fun cdv A outer s H E Tb hr => ?_
  exact (s_cons (s_setF (by intro c hc; simp only [List.mem_cons, List.not_mem_nil, or_false] at hc; rcases hc with rfl <;> first | exact ⟨T.kc_Part, T.n_Part_at⟩) (ps_fld (v_var (pv 0)) (v_var (pv 1)) rfl))
  (s_cons (s_setF (by intro c hc; simp only [List.mem_cons, List.not_mem_nil, or_false] at hc; rcases hc with rfl <;> first | exact ⟨T.kc_Part, T.n_Part_many⟩) (ps_fld (v_var (pv 0)) (v_var (pv 2)) rfl))
  (s_one (s_setF (by intro c hc; simp only [List.mem_cons, List.not_mem_nil, or_false] at hc; rcases hc with rfl <;> first | exact ⟨T.kc_Part, T.n_Part_signs⟩) (ps_fld (v_var (pv 0)) (v_var (pv 3)) rfl)))))
theorem mk_Part (T : Txt K mg) (Df : Defs K) : Mk' P w K mg base (L2.CX P w) 1 "Part" (spF K 4 F_Part_init) [] := by
  obtain ⟨fd, F⟩ := Df.Part_init
  obtain ⟨ds, hv, hb⟩ := (F.binds1 (ps := ["self", "at", "many", "signs"]) 4 1 (by simp) rfl fun T kV doc pm an cdv ct us its h1 h2 => match us, h1, its, h2 with | [_, _, _, _], _, [_], _ => ⟨_, rfl, rfl⟩ : ∃ ds, Vals [] ds ∧ L2.Binds K fd ["self", "at", "many", "signs"] ds)
  exact ⟨_, fd, _, ds, T.km_Part, ok_Part_init T Df F, T.c_Part, hb, hv⟩
theorem mk_Part_d1 (T : Txt K mg) (Df : Defs K) : Mk' P w K mg base (L2.CX P w) 1 "Part" (spF K 4 F_Part_init) [.bl false] := by
  obtain ⟨fd, F⟩ := Df.Part_init
  obtain ⟨ds, hv, hb⟩ := (F.binds1 (ps := ["self", "at", "many", "signs"]) 3 0 (by simp) rfl fun T kV doc pm an cdv ct us its h1 h2 => match us, h1, its, h2 with | [_, _, _], _, [_], _ => ⟨_, rfl, rfl⟩ : ∃ ds, Vals [.bl false] ds ∧ L2.Binds K fd ["self", "at", "many", "signs"] ds)
  exact ⟨_, fd, _, ds, T.km_Part, ok_Part_init T Df F, T.c_Part, hb, hv⟩
theorem mkk_Part_signs (T : Txt K mg) (Df : Defs K) : MkK P w K mg base (L2.CX P w) 1 "Part" (spF K 4 F_Part_init) 2 ["signs"] := by
  obtain ⟨fd, F⟩ := Df.Part_init
  obtain ⟨its, h⟩ := F.kbindsD (ps := ["self", "at", "many", "signs"]) 3 ["signs"] (fun us _ ws => us ++ ws) (by simp) (fun r1 _ r2 => r1.append r2) fun _ _ _ _ _ _ _ us its ws l1 l2 l3 => match us, its, ws, l1, l2, l3 with | [_, _, _], [_], [_], _, _, _ => ⟨_, rfl, rfl⟩
  exact ⟨_, fd, _, _, T.km_Part, ok_Part_init T Df F, T.c_Part, h⟩
end
section
variable {P : Program} {w : World} {K : PySem.W.Frag} {mg : Str → Option Value} {base : Heap}
theorem sc_Part_holds : FnScope ["self", "number", "half"] ["self", "number"] (defScope s_Part_holds) := ⟨rfl, rfl, rfl, by decide +kernel, rfl, by decide +kernel, by decide +kernel⟩
noncomputable def B_Part_holds : M Fl :=
  (seqM (setM (e2 shlD (ret (.int (1))) (e2 subD (fldM ["Part"] "many" (eV 0)) (ret (.int (1))))) (putS 2))
  (retM (ifM (bM (fldM ["Part"] "signs" (eV 0))) (callM F_is_whole [] (consM (eV 1) (consM (e2 subD (ret (.int (0))) (eV 2)) (consM (e2 subD (eV 2) (ret (.int (1)))) nilM)))) (callM F_is_whole [] (consM (eV 1) (consM (ret (.int (0))) (consM (e2 subD (e2 mulA (ret (.int (2))) (eV 2)) (ret (.int (1)))) nilM)))))))
noncomputable def F_Part_holds : Fun := defF 3 B_Part_holds
set_option maxHeartbeats 16000000 in
theorem ok_Part_holds (T : Txt K mg) (Df : Defs K) {f : Addr} {fd : FuncData} (F : FunD K "holds" "Part.holds" (defArgs s_Part_holds) (defBody s_Part_holds) (defScope s_Part_holds) [] [] f fd) : FnOk P w K mg base (L2.CX P w) 2 f fd ["self", "number"] (spF K 2 F_Part_holds) := by
  refine okF (k := 1) F sc_Part_holds fun cdv A outer s H E Tb hr => ?_
  exact (s_cons (s_set (ps_set (i := 2) sc_Part_holds.nd rfl (Or.inl rfl) (v_op op_shl s_shl v_int (v_op op_sub s_sub (v_fld (by intro c hc; simp only [List.mem_cons, List.not_mem_nil, or_false] at hc; rcases hc with rfl <;> first | exact ⟨T.kc_Part, T.n_Part_many⟩) (pe_fld (v_var (pv 0)) rfl)) v_int))))
  (s_one (s_ret (v_if (v_test (v_fld (by intro c hc; simp only [List.mem_cons, List.not_mem_nil, or_false] at hc; rcases hc with rfl <;> first | exact ⟨T.kc_Part, T.n_Part_signs⟩) (pe_fld (v_var (pv 0)) rfl))) (v_call (fun _ _ => .nil) (len_app (len_cons (len_cons (len_cons len_nil))) rfl) (pe_fS (fn_is_whole T Df) hr (by decide) (fun σ => passAt (takes_of rfl rfl rfl rfl) σ) (a_cons (v_var (pv 1)) (a_cons (v_op op_sub s_sub v_int (v_var (pv 2))) (a_cons (v_op op_sub s_sub (v_var (pv 2)) v_int) a_nil))))) (v_call (fun _ _ => .nil) (len_app (len_cons (len_cons (len_cons len_nil))) rfl) (pe_fS (fn_is_whole T Df) hr (by decide) (fun σ => passAt (takes_of rfl rfl rfl rfl) σ) (a_cons (v_var (pv 1)) (a_cons v_int (a_cons (v_op op_sub s_sub (v_op opA_mul s_mul v_int (v_var (pv 2))) v_int) a_nil)))))))))
theorem me_Part_holds (T : Txt K mg) (Df : Defs K) : Me P w K mg base (L2.CX P w) 2 "Part" "holds" (spF K 2 F_Part_holds) [] := by
  obtain ⟨fd, F⟩ := Df.Part_holds
  obtain ⟨ds, hv, hb⟩ := (bnd0 F fun _ _ _ _ _ _ us hl => match us, hl with | [_, _], _ => rfl : ∃ ds, Vals [] ds ∧ L2.Binds K fd ["self", "number"] ds)
  exact ⟨_, fd, _, ds, T.kc_Part, T.m_Part_holds, ok_Part_holds T Df F, hb, hv⟩
end
section
variable {P : Program} {w : World} {K : PySem.W.Frag} {mg : Str → Option Value} {base : Heap}
theorem sc_Part_bits : FnScope ["self", "number"] ["self", "number"] (defScope s_Part_bits) := ⟨rfl, rfl, rfl, by decide +kernel, rfl, by decide +kernel, by decide +kernel⟩
noncomputable def B_Part_bits : M Fl :=
  (retM (e2 shlD (e2 andD (eV 1) (e2 subD (e2 shlD (ret (.int (1))) (fldM ["Part"] "many" (eV 0))) (ret (.int (1))))) (fldM ["Part"] "at" (eV 0))))
noncomputable def F_Part_bits : Fun := defF 2 B_Part_bits
set_option maxHeartbeats 16000000 in
theorem ok_Part_bits (T : Txt K mg) (Df : Defs K) {f : Addr} {fd : FuncData} (F : FunD K "bits" "Part.bits" (defArgs s_Part_bits) (defBody s_Part_bits) (defScope s_Part_bits) [] [] f fd) : FnOk P w K mg base (L2.CX P w) 1 f fd ["self", "number"] (spF K 2 F_Part_bits) := by
  refine okF (k := 0) F sc_Part_bits fun cdv A outer s H E Tb hr => ?_
  exact (s_one (s_ret (v_op op_shl s_shl (v_op op_and s_and (v_var (pv 1)) (v_op op_sub s_sub (v_op op_shl s_shl v_int (v_fld (by intro c hc; simp only [List.mem_cons, List.not_mem_nil, or_false] at hc; rcases hc with rfl <;> first | exact ⟨T.kc_Part, T.n_Part_many⟩) (pe_fld (v_var (pv 0)) rfl))) v_int)) (v_fld (by intro c hc; simp only [List.mem_cons, List.not_mem_nil, or_false] at hc; rcases hc with rfl <;> first | exact ⟨T.kc_Part, T.n_Part_at⟩) (pe_fld (v_var (pv 0)) rfl)))))
theorem me_Part_bits (T : Txt K mg) (Df : Defs K) : Me P w K mg base (L2.CX P w) 1 "Part" "bits" (spF K 2 F_Part_bits) [] := by
  obtain ⟨fd, F⟩ := Df.Part_bits
  obtain ⟨ds, hv, hb⟩ := (bnd0 F fun _ _ _ _ _ _ us hl => match us, hl with | [_, _], _ => rfl : ∃ ds, Vals [] ds ∧ L2.Binds K fd ["self", "number"] ds)
  exact ⟨_, fd, _, ds, T.kc_Part, T.m_Part_bits, ok_Part_bits T Df F, hb, hv⟩
end
section
variable {P : Program} {w : World} {K : PySem.W.Frag} {mg : Str → Option Value} {base : Heap}
theorem sc_Part_taken : FnScope ["self", "word", "found"] ["self", "word"] (defScope s_Part_taken) := ⟨rfl, rfl, rfl, by decide +kernel, rfl, by decide +kernel, by decide +kernel⟩
noncomputable def B_Part_taken : M Fl :=
  (seqM (setM (callM F_field [] (consM (eV 1) (consM (fldM ["Part"] "at" (eV 0)) (consM (fldM ["Part"] "many" (eV 0)) nilM)))) (putS 2))
  (retM (ifM (bM (fldM ["Part"] "signs" (eV 0))) (callM F_signed [] (consM (eV 2) (consM (fldM ["Part"] "many" (eV 0)) nilM))) (eV 2))))
noncomputable def F_Part_taken : Fun := defF 3 B_Part_taken
set_option maxHeartbeats 16000000 in
theorem ok_Part_taken (T : Txt K mg) (Df : Defs K) {f : Addr} {fd : FuncData} (F : FunD K "taken" "Part.taken" (defArgs s_Part_taken) (defBody s_Part_taken) (defScope s_Part_taken) [] [] f fd) : FnOk P w K mg base (L2.CX P w) 2 f fd ["self", "word"] (spF K 2 F_Part_taken) := by
  refine okF (k := 1) F sc_Part_taken fun cdv A outer s H E Tb hr => ?_
  exact (s_cons (s_set (ps_set (i := 2) sc_Part_taken.nd rfl (Or.inl rfl) (v_call (fun _ _ => .nil) (len_app (len_cons (len_cons (len_cons len_nil))) rfl) (pe_fS (fn_field T Df) hr (by decide) (fun σ => passAt (takes_of rfl rfl rfl rfl) σ) (a_cons (v_var (pv 1)) (a_cons (v_fld (by intro c hc; simp only [List.mem_cons, List.not_mem_nil, or_false] at hc; rcases hc with rfl <;> first | exact ⟨T.kc_Part, T.n_Part_at⟩) (pe_fld (v_var (pv 0)) rfl)) (a_cons (v_fld (by intro c hc; simp only [List.mem_cons, List.not_mem_nil, or_false] at hc; rcases hc with rfl <;> first | exact ⟨T.kc_Part, T.n_Part_many⟩) (pe_fld (v_var (pv 0)) rfl)) a_nil)))))))
  (s_one (s_ret (v_if (v_test (v_fld (by intro c hc; simp only [List.mem_cons, List.not_mem_nil, or_false] at hc; rcases hc with rfl <;> first | exact ⟨T.kc_Part, T.n_Part_signs⟩) (pe_fld (v_var (pv 0)) rfl))) (v_call (fun _ _ => .nil) (len_app (len_cons (len_cons len_nil)) rfl) (pe_fS (fn_signed T Df) hr (by decide) (fun σ => passAt (takes_of rfl rfl rfl rfl) σ) (a_cons (v_var (pv 2)) (a_cons (v_fld (by intro c hc; simp only [List.mem_cons, List.not_mem_nil, or_false] at hc; rcases hc with rfl <;> first | exact ⟨T.kc_Part, T.n_Part_many⟩) (pe_fld (v_var (pv 0)) rfl)) a_nil)))) (v_var (pv 2))))))
theorem me_Part_taken (T : Txt K mg) (Df : Defs K) : Me P w K mg base (L2.CX P w) 2 "Part" "taken" (spF K 2 F_Part_taken) [] := by
  obtain ⟨fd, F⟩ := Df.Part_taken
  obtain ⟨ds, hv, hb⟩ := (bnd0 F fun _ _ _ _ _ _ us hl => match us, hl with | [_, _], _ => rfl : ∃ ds, Vals [] ds ∧ L2.Binds K fd ["self", "word"] ds)
  exact ⟨_, fd, _, ds, T.kc_Part, T.m_Part_taken, ok_Part_taken T Df F, hb, hv⟩
end
section
variable {P : Program} {w : World} {K : PySem.W.Frag} {mg : Str → Option Value} {base : Heap}
theorem sc_Form_init : FnScope ["self", "op", "parts"] ["self", "op", "parts"] (defScope s_Form_init) := ⟨rfl, rfl, rfl, by decide +kernel, rfl, by decide +kernel, by decide +kernel⟩
noncomputable def B_Form_init : M Fl :=
  (seqM (setF ["Form", "Near", "Far"] "op" (eV 0) (eV 1))
  (setF ["Form", "Near", "Far"] "parts" (eV 0) (eV 2)))
noncomputable def F_Form_init : Fun := defF 3 B_Form_init
set_option maxHeartbeats 16000000 in
theorem ok_Form_init (T : Txt K mg) (Df : Defs K) {f : Addr} {fd : FuncData} (F : FunD K "__init__" "Form.__init__" (defArgs s_Form_init) (defBody s_Form_init) (defScope s_Form_init) [] [] f fd) : FnOk P w K mg base (L2.CX P w) 1 f fd ["self", "op", "parts"] (spF K 3 F_Form_init) := by
  refine okF (k := 0) F sc_Form_init fun cdv A outer s H E Tb hr => ?_
  exact (s_cons (s_setF (by intro c hc; simp only [List.mem_cons, List.not_mem_nil, or_false] at hc; rcases hc with rfl | rfl | rfl <;> first | exact ⟨T.kc_Form, T.n_Form_op⟩ | exact ⟨T.kc_Near, T.n_Near_op⟩ | exact ⟨T.kc_Far, T.n_Far_op⟩) (ps_fld (v_var (pv 0)) (v_var (pv 1)) rfl))
  (s_one (s_setF (by intro c hc; simp only [List.mem_cons, List.not_mem_nil, or_false] at hc; rcases hc with rfl | rfl | rfl <;> first | exact ⟨T.kc_Form, T.n_Form_parts⟩ | exact ⟨T.kc_Near, T.n_Near_parts⟩ | exact ⟨T.kc_Far, T.n_Far_parts⟩) (ps_fld (v_var (pv 0)) (v_var (pv 2)) rfl))))
theorem mk_Form (T : Txt K mg) (Df : Defs K) : Mk' P w K mg base (L2.CX P w) 1 "Form" (spF K 3 F_Form_init) [] := by
  obtain ⟨fd, F⟩ := Df.Form_init
  obtain ⟨ds, hv, hb⟩ := (bnd0 F fun _ _ _ _ _ _ us hl => match us, hl with | [_, _, _], _ => rfl : ∃ ds, Vals [] ds ∧ L2.Binds K fd ["self", "op", "parts"] ds)
  exact ⟨_, fd, _, ds, T.km_Form, ok_Form_init T Df F, T.c_Form, hb, hv⟩
theorem mk_Near (T : Txt K mg) (Df : Defs K) : Mk' P w K mg base (L2.CX P w) 1 "Near" (spF K 3 F_Form_init) [] := by
  obtain ⟨fd, F⟩ := Df.Near_init
  obtain ⟨ds, hv, hb⟩ := (bnd0 F fun _ _ _ _ _ _ us hl => match us, hl with | [_, _, _], _ => rfl : ∃ ds, Vals [] ds ∧ L2.Binds K fd ["self", "op", "parts"] ds)
  exact ⟨_, fd, _, ds, T.km_Near, ok_Form_init T Df F, T.c_Near, hb, hv⟩
theorem mk_Far (T : Txt K mg) (Df : Defs K) : Mk' P w K mg base (L2.CX P w) 1 "Far" (spF K 3 F_Form_init) [] := by
  obtain ⟨fd, F⟩ := Df.Far_init
  obtain ⟨ds, hv, hb⟩ := (bnd0 F fun _ _ _ _ _ _ us hl => match us, hl with | [_, _, _], _ => rfl : ∃ ds, Vals [] ds ∧ L2.Binds K fd ["self", "op", "parts"] ds)
  exact ⟨_, fd, _, ds, T.km_Far, ok_Form_init T Df F, T.c_Far, hb, hv⟩
end
section
variable {P : Program} {w : World} {K : PySem.W.Frag} {mg : Str → Option Value} {base : Heap}
theorem sc_Form_need_parts : FnScope ["self", "numbers", "part", "one"] ["self", "numbers"] (defScope s_Form_need_parts) := ⟨rfl, rfl, rfl, by decide +kernel, rfl, by decide +kernel, by decide +kernel⟩
noncomputable def B_Form_need_parts : M Fl :=
  (seqM (ifS (bM (e2 neD (cN lenD (consM (eV 1) nilM)) (cN lenD (consM (fldM ["Form", "Near", "Far"] "parts" (eV 0)) nilM))))
  (raiseM "BadDeed")
  (ret .nx))
  (ifS (notM (bM (cN allD (consM (dropM (lcP (.tup [2, 3]) [2, 3] (zipIS (consM (fldM ["Form", "Near", "Far"] "parts" (eV 0)) (consM (eV 1) nilM))) (ret true) (methM ["Part"] "holds" (fun _ => F_Part_holds) [] (eV 2) (consM (eV 3) nilM)))) nilM))))
  (raiseM "BadDeed")
  (ret .nx)))
noncomputable def F_Form_need_parts : Fun := defF 4 B_Form_need_parts
set_option maxHeartbeats 16000000 in
theorem ok_Form_need_parts (T : Txt K mg) (Df : Defs K) {f : Addr} {fd : FuncData} (F : FunD K "need_parts" "Form.need_parts" (defArgs s_Form_need_parts) (defBody s_Form_need_parts) (defScope s_Form_need_parts) [] [] f fd) : FnOk P w K mg base (L2.CX P w) 3 f fd ["self", "numbers"] (spF K 2 F_Form_need_parts) := by
  refine okF (k := 2) F sc_Form_need_parts fun cdv A outer s H E Tb hr => ?_
  exact (s_cons (s_if (v_tcmp (opA_ne hr.units) s_ne (v_b s_len (pe_callB call_len rfl T.b_len (by decide +kernel) (a_cons (v_var (pv 1)) a_nil))) (v_b s_len (pe_callB call_len rfl T.b_len (by decide +kernel) (a_cons (v_fld (by intro c hc; simp only [List.mem_cons, List.not_mem_nil, or_false] at hc; rcases hc with rfl | rfl | rfl <;> first | exact ⟨T.kc_Form, T.n_Form_parts⟩ | exact ⟨T.kc_Near, T.n_Near_parts⟩ | exact ⟨T.kc_Far, T.n_Far_parts⟩) (pe_fld (v_var (pv 0)) rfl)) a_nil))) (nomark _)) (s_one (s_raiseP (x := "BadDeed") rfl (takes_of rfl rfl rfl rfl) (pmk_own PySem.F.excBase_ValueError (T.y.plain "BadDeed" (by decide)).1 T.c_BadDeed (T.y.plain "BadDeed" (by decide)).2.1 (raises_own (T.y.plain "BadDeed" (by decide)).2.2.1 (T.y.plain "BadDeed" (by decide)).2.2.2) rfl))) s_nil)
  (s_one (s_if (t_not (v_test (v_b s_all (pe_callB (cr_all rfl) rfl T.b_all (by decide +kernel) (a_cons (v_drop (v_lc (by decide) (pe_lc (own := [("part", 2), ("one", 3)]) (g := gTup K 2 (gNames [2, 3])) rfl sc_Form_need_parts.nd  (i_zipS (pi_zipS rfl T.b_zip (a_cons (v_fld (by intro c hc; simp only [List.mem_cons, List.not_mem_nil, or_false] at hc; rcases hc with rfl | rfl | rfl <;> first | exact ⟨T.kc_Form, T.n_Form_parts⟩ | exact ⟨T.kc_Near, T.n_Near_parts⟩ | exact ⟨T.kc_Far, T.n_Far_parts⟩) (pe_fld (v_var (pv 0)) rfl)) (a_cons (v_var (pv 1)) a_nil)))) (blkOk_by (own := [("part", 2), ("one", 3)]) (N := ["self", "numbers", "part", "one"]) (sc := defScope s_Form_need_parts) (by decide +kernel)) (fun _ _ _ _ _ => (pg_tup rfl (pgs_cons (pg_name (i := 2) sc_Form_need_parts.nd rfl (Or.inl rfl)) (pgs_cons (pg_name (i := 3) sc_Form_need_parts.nd rfl (Or.inl rfl)) pgs_nil)))) (fun _ _ _ _ _ => ts_nil) (fun _ _ _ _ _ => (v_meth (Φ := (fun _ => F_Part_holds)) (fun _ _ => .nil) (len_app1 (len_cons len_nil) rfl) (pe_meC (k := 2) (cs := ["Part"]) (spc := fun c => spF K 2 ((fun _ => F_Part_holds) c)) (by intro c hc; simp only [List.mem_cons, List.not_mem_nil, or_false] at hc; rcases hc with rfl <;> first | exact Me.mono (me_Part_holds T Df) (by decide)) hr (by decide) (fun σ => passAt takes0 σ) (v_var (pv 2)) (a_cons (v_var (pv 3)) a_nil))))))) a_nil))))) (s_one (s_raiseP (x := "BadDeed") rfl (takes_of rfl rfl rfl rfl) (pmk_own PySem.F.excBase_ValueError (T.y.plain "BadDeed" (by decide)).1 T.c_BadDeed (T.y.plain "BadDeed" (by decide)).2.1 (raises_own (T.y.plain "BadDeed" (by decide)).2.2.1 (T.y.plain "BadDeed" (by decide)).2.2.2) rfl))) s_nil)))
theorem me_Form_need_parts (T : Txt K mg) (Df : Defs K) : Me P w K mg base (L2.CX P w) 3 "Form" "need_parts" (spF K 2 F_Form_need_parts) [] := by
  obtain ⟨fd, F⟩ := Df.Form_need_parts
  obtain ⟨ds, hv, hb⟩ := (bnd0 F fun _ _ _ _ _ _ us hl => match us, hl with | [_, _], _ => rfl : ∃ ds, Vals [] ds ∧ L2.Binds K fd ["self", "numbers"] ds)
  exact ⟨_, fd, _, ds, T.kc_Form, T.m_Form_need_parts, ok_Form_need_parts T Df F, hb, hv⟩
theorem me_Near_need_parts (T : Txt K mg) (Df : Defs K) : Me P w K mg base (L2.CX P w) 3 "Near" "need_parts" (spF K 2 F_Form_need_parts) [] := by
  obtain ⟨fd, F⟩ := Df.Near_need_parts
  obtain ⟨ds, hv, hb⟩ := (bnd0 F fun _ _ _ _ _ _ us hl => match us, hl with | [_, _], _ => rfl : ∃ ds, Vals [] ds ∧ L2.Binds K fd ["self", "numbers"] ds)
  exact ⟨_, fd, _, ds, T.kc_Near, T.m_Near_need_parts, ok_Form_need_parts T Df F, hb, hv⟩
theorem me_Far_need_parts (T : Txt K mg) (Df : Defs K) : Me P w K mg base (L2.CX P w) 3 "Far" "need_parts" (spF K 2 F_Form_need_parts) [] := by
  obtain ⟨fd, F⟩ := Df.Far_need_parts
  obtain ⟨ds, hv, hb⟩ := (bnd0 F fun _ _ _ _ _ _ us hl => match us, hl with | [_, _], _ => rfl : ∃ ds, Vals [] ds ∧ L2.Binds K fd ["self", "numbers"] ds)
  exact ⟨_, fd, _, ds, T.kc_Far, T.m_Far_need_parts, ok_Form_need_parts T Df F, hb, hv⟩
end
section
variable {P : Program} {w : World} {K : PySem.W.Frag} {mg : Str → Option Value} {base : Heap}
theorem sc_Form_need : FnScope ["self", "numbers"] ["self", "numbers"] (defScope s_Form_need) := ⟨rfl, rfl, rfl, by decide +kernel, rfl, by decide +kernel, by decide +kernel⟩
noncomputable def B_Form_need : M Fl :=
  (exprM (methM ["Form"] "need_parts" (fun _ => F_Form_need_parts) [] (eV 0) (consM (eV 1) nilM)))
noncomputable def F_Form_need : Fun := defF 2 B_Form_need
set_option maxHeartbeats 16000000 in
theorem ok_Form_need (T : Txt K mg) (Df : Defs K) {f : Addr} {fd : FuncData} (F : FunD K "need" "Form.need" (defArgs s_Form_need) (defBody s_Form_need) (defScope s_Form_need) [] [] f fd) : FnOk P w K mg base (L2.CX P w) 4 f fd ["self", "numbers"] (spF K 2 F_Form_need) := by
  refine okF (k := 3) F sc_Form_need fun cdv A outer s H E Tb hr => ?_
  exact (s_one (s_expr (v_meth (Φ := (fun _ => F_Form_need_parts)) (fun _ _ => .nil) (len_app1 (len_cons len_nil) rfl) (pe_meC (k := 3) (cs := ["Form"]) (spc := fun c => spF K 2 ((fun _ => F_Form_need_parts) c)) (by intro c hc; simp only [List.mem_cons, List.not_mem_nil, or_false] at hc; rcases hc with rfl <;> first | exact Me.mono (me_Form_need_parts T Df) (by decide)) hr (by decide) (fun σ => passAt (takes_of rfl rfl rfl rfl) σ) (v_var (pv 0)) (a_cons (v_var (pv 1)) a_nil)))))
theorem me_Form_need (T : Txt K mg) (Df : Defs K) : Me P w K mg base (L2.CX P w) 4 "Form" "need" (spF K 2 F_Form_need) [] := by
  obtain ⟨fd, F⟩ := Df.Form_need
  obtain ⟨ds, hv, hb⟩ := (bnd0 F fun _ _ _ _ _ _ us hl => match us, hl with | [_, _], _ => rfl : ∃ ds, Vals [] ds ∧ L2.Binds K fd ["self", "numbers"] ds)
  exact ⟨_, fd, _, ds, T.kc_Form, T.m_Form_need, ok_Form_need T Df F, hb, hv⟩
end
section
variable {P : Program} {w : World} {K : PySem.W.Frag} {mg : Str → Option Value} {base : Heap}
theorem sc_Form_one_word : FnScope ["self", "numbers", "found", "part", "number"] ["self", "numbers"] (defScope s_Form_one_word) := ⟨rfl, rfl, rfl, by decide +kernel, rfl, by decide +kernel, by decide +kernel⟩
noncomputable def B_Form_one_word : M Fl :=
  (seqM (setM (e2 shlD (fldM ["Form", "Near", "Far"] "op" (eV 0)) (ret (.int (12)))) (putS 2))
  (seqM (forMC (zipC (consM (fldM ["Form", "Near", "Far"] "parts" (eV 0)) (consM (eV 1) nilM))) (tupG 2 (consG (putS 3) (consG (putS 4) nilG))) (augM 2 orD (methM ["Part"] "bits" (fun _ => F_Part_bits) [] (eV 3) (consM (eV 4) nilM))))
  (retM (eV 2))))
noncomputable def F_Form_one_word : Fun := defF 5 B_Form_one_word
set_option maxHeartbeats 16000000 in
theorem ok_Form_one_word (T : Txt K mg) (Df : Defs K) {f : Addr} {fd : FuncData} (F : FunD K "one_word" "Form.one_word" (defArgs s_Form_one_word) (defBody s_Form_one_word) (defScope s_Form_one_word) [] [] f fd) : FnOk P w K mg base (L2.CX P w) 2 f fd ["self", "numbers"] (spF K 2 F_Form_one_word) := by
  refine okF (k := 1) F sc_Form_one_word fun cdv A outer s H E Tb hr => ?_
  exact (s_cons (s_set (ps_set (i := 2) sc_Form_one_word.nd rfl (Or.inl rfl) (v_op op_shl s_shl (v_fld (by intro c hc; simp only [List.mem_cons, List.not_mem_nil, or_false] at hc; rcases hc with rfl | rfl | rfl <;> first | exact ⟨T.kc_Form, T.n_Form_op⟩ | exact ⟨T.kc_Near, T.n_Near_op⟩ | exact ⟨T.kc_Far, T.n_Far_op⟩) (pe_fld (v_var (pv 0)) rfl)) v_int)))
  (s_cons (s_forC (ps_for (passes_of rfl) rfl (ic_zip (pi_zip rfl T.b_zip (a_cons (v_fld (by intro c hc; simp only [List.mem_cons, List.not_mem_nil, or_false] at hc; rcases hc with rfl | rfl | rfl <;> first | exact ⟨T.kc_Form, T.n_Form_parts⟩ | exact ⟨T.kc_Near, T.n_Near_parts⟩ | exact ⟨T.kc_Far, T.n_Far_parts⟩) (pe_fld (v_var (pv 0)) rfl)) (a_cons (v_var (pv 1)) a_nil)))) (g_tup (pg_tup rfl (gs_cons (pgs_cons (g_name (pg_name (i := 3) sc_Form_one_word.nd rfl (Or.inl rfl))) (gs_cons (pgs_cons (g_name (pg_name (i := 4) sc_Form_one_word.nd rfl (Or.inl rfl))) gs_nil)))))) (s_one (s_aug s_or (ps_aug (i := 2) sc_Form_one_word.nd rfl (Or.inl rfl) (v_meth (Φ := (fun _ => F_Part_bits)) (fun _ _ => .nil) (len_app1 (len_cons len_nil) rfl) (pe_meC (k := 1) (cs := ["Part"]) (spc := fun c => spF K 2 ((fun _ => F_Part_bits) c)) (by intro c hc; simp only [List.mem_cons, List.not_mem_nil, or_false] at hc; rcases hc with rfl <;> first | exact Me.mono (me_Part_bits T Df) (by decide)) hr (by decide) (fun σ => passAt (takes_of rfl rfl rfl rfl) σ) (v_var (pv 3)) (a_cons (v_var (pv 4)) a_nil))) (pip_of iop_or))))))
  (s_one (s_ret (v_var (pv 2))))))
theorem me_Form_one_word (T : Txt K mg) (Df : Defs K) : Me P w K mg base (L2.CX P w) 2 "Form" "one_word" (spF K 2 F_Form_one_word) [] := by
  obtain ⟨fd, F⟩ := Df.Form_one_word
  obtain ⟨ds, hv, hb⟩ := (bnd0 F fun _ _ _ _ _ _ us hl => match us, hl with | [_, _], _ => rfl : ∃ ds, Vals [] ds ∧ L2.Binds K fd ["self", "numbers"] ds)
  exact ⟨_, fd, _, ds, T.kc_Form, T.m_Form_one_word, ok_Form_one_word T Df F, hb, hv⟩
theorem me_Near_one_word (T : Txt K mg) (Df : Defs K) : Me P w K mg base (L2.CX P w) 2 "Near" "one_word" (spF K 2 F_Form_one_word) [] := by
  obtain ⟨fd, F⟩ := Df.Near_one_word
  obtain ⟨ds, hv, hb⟩ := (bnd0 F fun _ _ _ _ _ _ us hl => match us, hl with | [_, _], _ => rfl : ∃ ds, Vals [] ds ∧ L2.Binds K fd ["self", "numbers"] ds)
  exact ⟨_, fd, _, ds, T.kc_Near, T.m_Near_one_word, ok_Form_one_word T Df F, hb, hv⟩
theorem me_Far_one_word (T : Txt K mg) (Df : Defs K) : Me P w K mg base (L2.CX P w) 2 "Far" "one_word" (spF K 2 F_Form_one_word) [] := by
  obtain ⟨fd, F⟩ := Df.Far_one_word
  obtain ⟨ds, hv, hb⟩ := (bnd0 F fun _ _ _ _ _ _ us hl => match us, hl with | [_, _], _ => rfl : ∃ ds, Vals [] ds ∧ L2.Binds K fd ["self", "numbers"] ds)
  exact ⟨_, fd, _, ds, T.kc_Far, T.m_Far_one_word, ok_Form_one_word T Df F, hb, hv⟩
end
section
variable {P : Program} {w : World} {K : PySem.W.Frag} {mg : Str → Option Value} {base : Heap}
theorem sc_Form_words : FnScope ["self", "numbers", "place"] ["self", "numbers", "place"] (defScope s_Form_words) := ⟨rfl, rfl, rfl, by decide +kernel, rfl, by decide +kernel, by decide +kernel⟩
noncomputable def B_Form_words : M Fl :=
  (retM (tupM (consM (methM ["Form"] "one_word" (fun _ => F_Form_one_word) [] (eV 0) (consM (eV 1) nilM)) nilM)))
noncomputable def F_Form_words : Fun := defF 3 B_Form_words
set_option maxHeartbeats 16000000 in
theorem ok_Form_words (T : Txt K mg) (Df : Defs K) {f : Addr} {fd : FuncData} (F : FunD K "words" "Form.words" (defArgs s_Form_words) (defBody s_Form_words) (defScope s_Form_words) [] [] f fd) : FnOk P w K mg base (L2.CX P w) 3 f fd ["self", "numbers", "place"] (spF K 3 F_Form_words) := by
  refine okF (k := 2) F sc_Form_words fun cdv A outer s H E Tb hr => ?_
  exact (s_one (s_ret (v_tup (a_cons (v_meth (Φ := (fun _ => F_Form_one_word)) (fun _ _ => .nil) (len_app1 (len_cons len_nil) rfl) (pe_meC (k := 2) (cs := ["Form"]) (spc := fun c => spF K 2 ((fun _ => F_Form_one_word) c)) (by intro c hc; simp only [List.mem_cons, List.not_mem_nil, or_false] at hc; rcases hc with rfl <;> first | exact Me.mono (me_Form_one_word T Df) (by decide)) hr (by decide) (fun σ => passAt (takes_of rfl rfl rfl rfl) σ) (v_var (pv 0)) (a_cons (v_var (pv 1)) a_nil))) a_nil))))
theorem me_Form_words (T : Txt K mg) (Df : Defs K) : Me P w K mg base (L2.CX P w) 3 "Form" "words" (spF K 3 F_Form_words) [] := by
  obtain ⟨fd, F⟩ := Df.Form_words
  obtain ⟨ds, hv, hb⟩ := (bnd0 F fun _ _ _ _ _ _ us hl => match us, hl with | [_, _, _], _ => rfl : ∃ ds, Vals [] ds ∧ L2.Binds K fd ["self", "numbers", "place"] ds)
  exact ⟨_, fd, _, ds, T.kc_Form, T.m_Form_words, ok_Form_words T Df F, hb, hv⟩
end
end Lk04


set_option autoImplicit false
set_option Elab.async false
set_option linter.all false
set_option maxRecDepth 100000
set_option maxHeartbeats 4000000
namespace Lk04
open PySem PySem.Spec PyProof.Rows L2 Bm Fv
section
variable {P : Program} {w : World} {K : PySem.W.Frag} {mg : Str → Option Value} {base : Heap}
theorem sc_Form_numbers : FnScope ["self", "word", "found", "part"] ["self", "word"] (defScope s_Form_numbers) := ⟨rfl, rfl, rfl, by decide +kernel, rfl, by decide +kernel, by decide +kernel⟩
noncomputable def B_Form_numbers : M Fl :=
  (seqM (setM (lcP (.one 3) [3] (seqI (fldM ["Form", "Near", "Far"] "parts" (eV 0))) (ret true) (methM ["Part"] "taken" (fun _ => F_Part_taken) [] (eV 3) (consM (eV 1) nilM))) (putS 2))
  (seqM (ifS (bM (e2 neD (methM ["Form", "Near", "Far"] "one_word" (fun _ => F_Form_one_word) [] (eV 0) (consM (eV 2) nilM)) (eV 1)))
  (raiseM "NoDeed")
  (ret .nx))
  (retM (eV 2))))
noncomputable def F_Form_numbers : Fun := defF 4 B_Form_numbers
set_option maxHeartbeats 16000000 in
theorem ok_Form_numbers (T : Txt K mg) (Df : Defs K) {f : Addr} {fd : FuncData} (F : FunD K "numbers" "Form.numbers" (defArgs s_Form_numbers) (defBody s_Form_numbers) (defScope s_Form_numbers) [] [] f fd) : FnOk P w K mg base (L2.CX P w) 3 f fd ["self", "word"] (spF K 2 F_Form_numbers) := by
  refine okF (k := 2) F sc_Form_numbers fun cdv A outer s H E Tb hr => ?_
  exact (s_cons (s_setLc (by decide) (ps_setLc (i := 2) (own := [("part", 3)]) (g := gName 3) rfl sc_Form_numbers.nd rfl rfl (sw_true rfl rfl rfl (by decide +kernel)) (i_seq (pi_seq (v_fld (by intro c hc; simp only [List.mem_cons, List.not_mem_nil, or_false] at hc; rcases hc with rfl | rfl | rfl <;> first | exact ⟨T.kc_Form, T.n_Form_parts⟩ | exact ⟨T.kc_Near, T.n_Near_parts⟩ | exact ⟨T.kc_Far, T.n_Far_parts⟩) (pe_fld (v_var (pv 0)) rfl)))) (blkOk_by (own := [("part", 3)]) (N := ["self", "word", "found", "part"]) (sc := defScope s_Form_numbers) (by decide +kernel)) (fun _ _ _ _ _ => (pg_name (i := 3) sc_Form_numbers.nd rfl (Or.inl rfl))) (fun _ _ _ _ _ => ts_nil) (fun _ _ _ _ _ => (v_meth (Φ := (fun _ => F_Part_taken)) (fun _ _ => .nil) (len_app1 (len_cons len_nil) rfl) (pe_meC (k := 2) (cs := ["Part"]) (spc := fun c => spF K 2 ((fun _ => F_Part_taken) c)) (by intro c hc; simp only [List.mem_cons, List.not_mem_nil, or_false] at hc; rcases hc with rfl <;> first | exact Me.mono (me_Part_taken T Df) (by decide)) hr (by decide) (fun σ => passAt takes0 σ) (v_var (pv 3)) (a_cons (v_var (pv 1)) a_nil))))))
  (s_cons (s_if (v_tcmp (opA_ne hr.units) s_ne (v_meth (Φ := (fun _ => F_Form_one_word)) (fun _ _ => .nil) (len_app1 (len_cons len_nil) rfl) (pe_meC (k := 2) (cs := ["Form", "Near", "Far"]) (spc := fun c => spF K 2 ((fun _ => F_Form_one_word) c)) (by intro c hc; simp only [List.mem_cons, List.not_mem_nil, or_false] at hc; rcases hc with rfl | rfl | rfl <;> first | exact Me.mono (me_Form_one_word T Df) (by decide) | exact Me.mono (me_Near_one_word T Df) (by decide) | exact Me.mono (me_Far_one_word T Df) (by decide)) hr (by decide) (fun σ => passAt (takes_of rfl rfl rfl rfl) σ) (v_var (pv 0)) (a_cons (v_var (pv 2)) a_nil))) (v_var (pv 1)) (nomark _)) (s_one (s_raiseP (x := "NoDeed") rfl (takes_of rfl rfl rfl rfl) (pmk_own PySem.F.excBase_ValueError (T.y.plain "NoDeed" (by decide)).1 T.c_NoDeed (T.y.plain "NoDeed" (by decide)).2.1 (raises_own (T.y.plain "NoDeed" (by decide)).2.2.1 (T.y.plain "NoDeed" (by decide)).2.2.2) rfl))) s_nil)
  (s_one (s_ret (v_var (pv 2))))))
theorem me_Form_numbers (T : Txt K mg) (Df : Defs K) : Me P w K mg base (L2.CX P w) 3 "Form" "numbers" (spF K 2 F_Form_numbers) [] := by
  obtain ⟨fd, F⟩ := Df.Form_numbers
  obtain ⟨ds, hv, hb⟩ := (bnd0 F fun _ _ _ _ _ _ us hl => match us, hl with | [_, _], _ => rfl : ∃ ds, Vals [] ds ∧ L2.Binds K fd ["self", "word"] ds)
  exact ⟨_, fd, _, ds, T.kc_Form, T.m_Form_numbers, ok_Form_numbers T Df F, hb, hv⟩
theorem me_Near_numbers (T : Txt K mg) (Df : Defs K) : Me P w K mg base (L2.CX P w) 3 "Near" "numbers" (spF K 2 F_Form_numbers) [] := by
  obtain ⟨fd, F⟩ := Df.Near_numbers
  obtain ⟨ds, hv, hb⟩ := (bnd0 F fun _ _ _ _ _ _ us hl => match us, hl with | [_, _], _ => rfl : ∃ ds, Vals [] ds ∧ L2.Binds K fd ["self", "word"] ds)
  exact ⟨_, fd, _, ds, T.kc_Near, T.m_Near_numbers, ok_Form_numbers T Df F, hb, hv⟩
theorem me_Far_numbers (T : Txt K mg) (Df : Defs K) : Me P w K mg base (L2.CX P w) 3 "Far" "numbers" (spF K 2 F_Form_numbers) [] := by
  obtain ⟨fd, F⟩ := Df.Far_numbers
  obtain ⟨ds, hv, hb⟩ := (bnd0 F fun _ _ _ _ _ _ us hl => match us, hl with | [_, _], _ => rfl : ∃ ds, Vals [] ds ∧ L2.Binds K fd ["self", "word"] ds)
  exact ⟨_, fd, _, ds, T.kc_Far, T.m_Far_numbers, ok_Form_numbers T Df F, hb, hv⟩
end
section
variable {P : Program} {w : World} {K : PySem.W.Frag} {mg : Str → Option Value} {base : Heap}
theorem sc_Form_read : FnScope ["self", "image", "place"] ["self", "image", "place"] (defScope s_Form_read) := ⟨rfl, rfl, rfl, by decide +kernel, rfl, by decide +kernel, by decide +kernel⟩
noncomputable def B_Form_read : M Fl :=
  (retM (methM ["Form"] "numbers" (fun _ => F_Form_numbers) [] (eV 0) (consM (e2 ixD (eV 1) (eV 2)) nilM)))
noncomputable def F_Form_read : Fun := defF 3 B_Form_read
set_option maxHeartbeats 16000000 in
theorem ok_Form_read (T : Txt K mg) (Df : Defs K) {f : Addr} {fd : FuncData} (F : FunD K "read" "Form.read" (defArgs s_Form_read) (defBody s_Form_read) (defScope s_Form_read) [] [] f fd) : FnOk P w K mg base (L2.CX P w) 4 f fd ["self", "image", "place"] (spF K 3 F_Form_read) := by
  refine okF (k := 3) F sc_Form_read fun cdv A outer s H E Tb hr => ?_
  exact (s_one (s_ret (v_meth (Φ := (fun _ => F_Form_numbers)) (fun _ _ => .nil) (len_app1 (len_cons len_nil) rfl) (pe_meC (k := 3) (cs := ["Form"]) (spc := fun c => spF K 2 ((fun _ => F_Form_numbers) c)) (by intro c hc; simp only [List.mem_cons, List.not_mem_nil, or_false] at hc; rcases hc with rfl <;> first | exact Me.mono (me_Form_numbers T Df) (by decide)) hr (by decide) (fun σ => passAt (takes_of rfl rfl rfl rfl) σ) (v_var (pv 0)) (a_cons (v_ix ix_seq s_ix (v_var (pv 1)) (v_var (pv 2)) (fun _ _ => rfl)) a_nil)))))
theorem me_Form_read (T : Txt K mg) (Df : Defs K) : Me P w K mg base (L2.CX P w) 4 "Form" "read" (spF K 3 F_Form_read) [] := by
  obtain ⟨fd, F⟩ := Df.Form_read
  obtain ⟨ds, hv, hb⟩ := (bnd0 F fun _ _ _ _ _ _ us hl => match us, hl with | [_, _, _], _ => rfl : ∃ ds, Vals [] ds ∧ L2.Binds K fd ["self", "image", "place"] ds)
  exact ⟨_, fd, _, ds, T.kc_Form, T.m_Form_read, ok_Form_read T Df F, hb, hv⟩
end
section
variable {P : Program} {w : World} {K : PySem.W.Frag} {mg : Str → Option Value} {base : Heap}
theorem sc_Form_size : FnScope ["self"] ["self"] (defScope s_Form_size) := ⟨rfl, rfl, rfl, by decide +kernel, rfl, by decide +kernel, by decide +kernel⟩
noncomputable def B_Form_size : M Fl :=
  (retM (ret (.int (1))))
noncomputable def F_Form_size : Fun := defF 1 B_Form_size
set_option maxHeartbeats 16000000 in
theorem ok_Form_size (T : Txt K mg) (Df : Defs K) {f : Addr} {fd : FuncData} (F : FunD K "size" "Form.size" (defArgs s_Form_size) (defBody s_Form_size) (defScope s_Form_size) [] [] f fd) : FnOk P w K mg base (L2.CX P w) 1 f fd ["self"] (spF K 1 F_Form_size) := by
  refine okF (k := 0) F sc_Form_size fun cdv A outer s H E Tb hr => ?_
  exact (s_one (s_ret v_int))
theorem me_Form_size (T : Txt K mg) (Df : Defs K) : Me P w K mg base (L2.CX P w) 1 "Form" "size" (spF K 1 F_Form_size) [] := by
  obtain ⟨fd, F⟩ := Df.Form_size
  obtain ⟨ds, hv, hb⟩ := (bnd0 F fun _ _ _ _ _ _ us hl => match us, hl with | [_], _ => rfl : ∃ ds, Vals [] ds ∧ L2.Binds K fd ["self"] ds)
  exact ⟨_, fd, _, ds, T.kc_Form, T.m_Form_size, ok_Form_size T Df F, hb, hv⟩
theorem me_Near_size (T : Txt K mg) (Df : Defs K) : Me P w K mg base (L2.CX P w) 1 "Near" "size" (spF K 1 F_Form_size) [] := by
  obtain ⟨fd, F⟩ := Df.Near_size
  obtain ⟨ds, hv, hb⟩ := (bnd0 F fun _ _ _ _ _ _ us hl => match us, hl with | [_], _ => rfl : ∃ ds, Vals [] ds ∧ L2.Binds K fd ["self"] ds)
  exact ⟨_, fd, _, ds, T.kc_Near, T.m_Near_size, ok_Form_size T Df F, hb, hv⟩
end
section
variable {P : Program} {w : World} {K : PySem.W.Frag} {mg : Str → Option Value} {base : Heap}
theorem sc_Near_read : FnScope ["self", "image", "place", "found"] ["self", "image", "place"] (defScope s_Near_read) := ⟨rfl, rfl, rfl, by decide +kernel, rfl, by decide +kernel, by decide +kernel⟩
noncomputable def B_Near_read : M Fl :=
  (seqM (setM (methM ["Near"] "numbers" (fun _ => F_Form_numbers) [] (eV 0) (consM (e2 ixD (eV 1) (eV 2)) nilM)) (putS 3))
  (seqM (augI addI (eV 3) (negM (ret (.int (1)))) (e2 addD (eV 2) (ret (.int (1)))))
  (seqM (ifS (bM (e2 ltD (e2 ixD (eV 3) (negM (ret (.int (1))))) (ret (.int (0)))))
  (raiseM "NoDeed")
  (ret .nx))
  (retM (eV 3)))))
noncomputable def F_Near_read : Fun := defF 4 B_Near_read
set_option maxHeartbeats 16000000 in
theorem ok_Near_read (T : Txt K mg) (Df : Defs K) {f : Addr} {fd : FuncData} (F : FunD K "read" "Near.read" (defArgs s_Near_read) (defBody s_Near_read) (defScope s_Near_read) [] [] f fd) : FnOk P w K mg base (L2.CX P w) 4 f fd ["self", "image", "place"] (spF K 3 F_Near_read) := by
  refine okF (k := 3) F sc_Near_read fun cdv A outer s H E Tb hr => ?_
  exact (s_cons (s_set (ps_set (i := 3) sc_Near_read.nd rfl (Or.inl rfl) (v_meth (Φ := (fun _ => F_Form_numbers)) (fun _ _ => .nil) (len_app1 (len_cons len_nil) rfl) (pe_meC (k := 3) (cs := ["Near"]) (spc := fun c => spF K 2 ((fun _ => F_Form_numbers) c)) (by intro c hc; simp only [List.mem_cons, List.not_mem_nil, or_false] at hc; rcases hc with rfl <;> first | exact Me.mono (me_Near_numbers T Df) (by decide)) hr (by decide) (fun σ => passAt (takes_of rfl rfl rfl rfl) σ) (v_var (pv 0)) (a_cons (v_ix ix_seq s_ix (v_var (pv 1)) (v_var (pv 2)) (fun _ _ => rfl)) a_nil)))))
  (s_cons (s_augI s_addI (ps_augS (v_var (pv 3)) (v_neg v_int) get_list (v_op opA_add s_add (v_var (pv 2)) v_int) (pip_of iop_add) set_list))
  (s_cons (s_if (v_tcmp op_lt s_lt (v_ix ix_seq s_ix (v_var (pv 3)) (v_neg v_int) (fun _ _ => rfl)) v_int (nomark _)) (s_one (s_raiseP (x := "NoDeed") rfl (takes_of rfl rfl rfl rfl) (pmk_own PySem.F.excBase_ValueError (T.y.plain "NoDeed" (by decide)).1 T.c_NoDeed (T.y.plain "NoDeed" (by decide)).2.1 (raises_own (T.y.plain "NoDeed" (by decide)).2.2.1 (T.y.plain "NoDeed" (by decide)).2.2.2) rfl))) s_nil)
  (s_one (s_ret (v_var (pv 3)))))))
theorem me_Near_read (T : Txt K mg) (Df : Defs K) : Me P w K mg base (L2.CX P w) 4 "Near" "read" (spF K 3 F_Near_read) [] := by
  obtain ⟨fd, F⟩ := Df.Near_read
  obtain ⟨ds, hv, hb⟩ := (bnd0 F fun _ _ _ _ _ _ us hl => match us, hl with | [_, _, _], _ => rfl : ∃ ds, Vals [] ds ∧ L2.Binds K fd ["self", "image", "place"] ds)
  exact ⟨_, fd, _, ds, T.kc_Near, T.m_Near_read, ok_Near_read T Df F, hb, hv⟩
end
section
variable {P : Program} {w : World} {K : PySem.W.Frag} {mg : Str → Option Value} {base : Heap}
theorem sc_Far_read : FnScope ["self", "image", "place"] ["self", "image", "place"] (defScope s_Far_read) := ⟨rfl, rfl, rfl, by decide +kernel, rfl, by decide +kernel, by decide +kernel⟩
noncomputable def B_Far_read : M Fl :=
  (seqM (ifS (bM (e2 geD (e2 addD (eV 2) (ret (.int (1)))) (cN lenD (consM (eV 1) nilM))))
  (raiseM "NoDeed")
  (ret .nx))
  (retM (e2 addD (methM ["Far"] "numbers" (fun _ => F_Form_numbers) [] (eV 0) (consM (e2 ixD (eV 1) (eV 2)) nilM)) (frzM (lstM (consM (e2 ixD (eV 1) (e2 addD (eV 2) (ret (.int (1))))) nilM))))))
noncomputable def F_Far_read : Fun := defF 3 B_Far_read
set_option maxHeartbeats 16000000 in
theorem ok_Far_read (T : Txt K mg) (Df : Defs K) {f : Addr} {fd : FuncData} (F : FunD K "read" "Far.read" (defArgs s_Far_read) (defBody s_Far_read) (defScope s_Far_read) [] [] f fd) : FnOk P w K mg base (L2.CX P w) 4 f fd ["self", "image", "place"] (spF K 3 F_Far_read) := by
  refine okF (k := 3) F sc_Far_read fun cdv A outer s H E Tb hr => ?_
  exact (s_cons (s_if (v_tcmp op_ge s_ge (v_op opA_add s_add (v_var (pv 2)) v_int) (v_b s_len (pe_callB call_len rfl T.b_len (by decide +kernel) (a_cons (v_var (pv 1)) a_nil))) (nomark _)) (s_one (s_raiseP (x := "NoDeed") rfl (takes_of rfl rfl rfl rfl) (pmk_own PySem.F.excBase_ValueError (T.y.plain "NoDeed" (by decide)).1 T.c_NoDeed (T.y.plain "NoDeed" (by decide)).2.1 (raises_own (T.y.plain "NoDeed" (by decide)).2.2.1 (T.y.plain "NoDeed" (by decide)).2.2.2) rfl))) s_nil)
  (s_one (s_ret (v_op opA_add s_add (v_meth (Φ := (fun _ => F_Form_numbers)) (fun _ _ => .nil) (len_app1 (len_cons len_nil) rfl) (pe_meC (k := 3) (cs := ["Far"]) (spc := fun c => spF K 2 ((fun _ => F_Form_numbers) c)) (by intro c hc; simp only [List.mem_cons, List.not_mem_nil, or_false] at hc; rcases hc with rfl <;> first | exact Me.mono (me_Far_numbers T Df) (by decide)) hr (by decide) (fun σ => passAt (takes_of rfl rfl rfl rfl) σ) (v_var (pv 0)) (a_cons (v_ix ix_seq s_ix (v_var (pv 1)) (v_var (pv 2)) (fun _ _ => rfl)) a_nil))) (v_frz (o_lst (a_cons (v_ix ix_seq s_ix (v_var (pv 1)) (v_op opA_add s_add (v_var (pv 2)) v_int) (fun _ _ => rfl)) a_nil)))))))
theorem me_Far_read (T : Txt K mg) (Df : Defs K) : Me P w K mg base (L2.CX P w) 4 "Far" "read" (spF K 3 F_Far_read) [] := by
  obtain ⟨fd, F⟩ := Df.Far_read
  obtain ⟨ds, hv, hb⟩ := (bnd0 F fun _ _ _ _ _ _ us hl => match us, hl with | [_, _, _], _ => rfl : ∃ ds, Vals [] ds ∧ L2.Binds K fd ["self", "image", "place"] ds)
  exact ⟨_, fd, _, ds, T.kc_Far, T.m_Far_read, ok_Far_read T Df F, hb, hv⟩
end
section
variable {P : Program} {w : World} {K : PySem.W.Frag} {mg : Str → Option Value} {base : Heap}
theorem sc_Far_size : FnScope ["self"] ["self"] (defScope s_Far_size) := ⟨rfl, rfl, rfl, by decide +kernel, rfl, by decide +kernel, by decide +kernel⟩
noncomputable def B_Far_size : M Fl :=
  (retM (ret (.int (2))))
noncomputable def F_Far_size : Fun := defF 1 B_Far_size
set_option maxHeartbeats 16000000 in
theorem ok_Far_size (T : Txt K mg) (Df : Defs K) {f : Addr} {fd : FuncData} (F : FunD K "size" "Far.size" (defArgs s_Far_size) (defBody s_Far_size) (defScope s_Far_size) [] [] f fd) : FnOk P w K mg base (L2.CX P w) 1 f fd ["self"] (spF K 1 F_Far_size) := by
  refine okF (k := 0) F sc_Far_size fun cdv A outer s H E Tb hr => ?_
  exact (s_one (s_ret v_int))
theorem me_Far_size (T : Txt K mg) (Df : Defs K) : Me P w K mg base (L2.CX P w) 1 "Far" "size" (spF K 1 F_Far_size) [] := by
  obtain ⟨fd, F⟩ := Df.Far_size
  obtain ⟨ds, hv, hb⟩ := (bnd0 F fun _ _ _ _ _ _ us hl => match us, hl with | [_], _ => rfl : ∃ ds, Vals [] ds ∧ L2.Binds K fd ["self"] ds)
  exact ⟨_, fd, _, ds, T.kc_Far, T.m_Far_size, ok_Far_size T Df F, hb, hv⟩
end
section
variable {P : Program} {w : World} {K : PySem.W.Frag} {mg : Str → Option Value} {base : Heap}
theorem sc_Near_need : FnScope ["self", "numbers"] ["self", "numbers"] (defScope s_Near_need) := ⟨rfl, rfl, rfl, by decide +kernel, rfl, by decide +kernel, by decide +kernel⟩
noncomputable def B_Near_need : M Fl :=
  (seqM (ifS (orM (bM (e2 eqD (eV 1) (frzM (lstM nilM)))) (notM (bM (callM F_is_whole [(.int (0)), (.int (65535))] (consM (e2 ixD (eV 1) (negM (ret (.int (1))))) nilM)))))
  (raiseM "BadDeed")
  (ret .nx))
  (exprM (methM ["Near"] "need_parts" (fun _ => F_Form_need_parts) [] (eV 0) (consM (e2 addD (slM (eV 1) (prt none) (prt (some (negM (ret (.int (1))))))) (frzM (lstM (consM (ret (.int (0))) nilM)))) nilM))))
noncomputable def F_Near_need : Fun := defF 2 B_Near_need
set_option maxHeartbeats 16000000 in
theorem ok_Near_need (T : Txt K mg) (Df : Defs K) {f : Addr} {fd : FuncData} (F : FunD K "need" "Near.need" (defArgs s_Near_need) (defBody s_Near_need) (defScope s_Near_need) [] [] f fd) : FnOk P w K mg base (L2.CX P w) 4 f fd ["self", "numbers"] (spF K 2 F_Near_need) := by
  refine okF (k := 3) F sc_Near_need fun cdv A outer s H E Tb hr => ?_
  exact (s_cons (s_if (PW.pt (w_or (v_tcmp (opA_eq hr.units) s_eq (v_var (pv 1)) (v_frz (o_lst a_nil)) (nomark _)) (w_or1 (t_not (v_test (v_call (fun _ _ => (.cons (.int _) (.cons (.int _) .nil))) (len_app (len_cons len_nil) rfl) (pe_fS (fn_is_whole_d2 T Df) hr (by decide) (fun σ => passAt (takes_of rfl rfl rfl rfl) σ) (a_cons (v_ix ix_seq s_ix (v_var (pv 1)) (v_neg v_int) (fun _ _ => rfl)) a_nil)))))))) (s_one (s_raiseP (x := "BadDeed") rfl (takes_of rfl rfl rfl rfl) (pmk_own PySem.F.excBase_ValueError (T.y.plain "BadDeed" (by decide)).1 T.c_BadDeed (T.y.plain "BadDeed" (by decide)).2.1 (raises_own (T.y.plain "BadDeed" (by decide)).2.2.1 (T.y.plain "BadDeed" (by decide)).2.2.2) rfl))) s_nil)
  (s_one (s_expr (v_meth (Φ := (fun _ => F_Form_need_parts)) (fun _ _ => .nil) (len_app1 (len_cons len_nil) rfl) (pe_meC (k := 3) (cs := ["Near"]) (spc := fun c => spF K 2 ((fun _ => F_Form_need_parts) c)) (by intro c hc; simp only [List.mem_cons, List.not_mem_nil, or_false] at hc; rcases hc with rfl <;> first | exact Me.mono (me_Near_need_parts T Df) (by decide)) hr (by decide) (fun σ => passAt (takes_of rfl rfl rfl rfl) σ) (v_var (pv 0)) (a_cons (v_op opA_add s_add (v_sl rfl (v_var (pv 1)) p_none (p_some (v_neg v_int))) (v_frz (o_lst (a_cons v_int a_nil)))) a_nil))))))
theorem me_Near_need (T : Txt K mg) (Df : Defs K) : Me P w K mg base (L2.CX P w) 4 "Near" "need" (spF K 2 F_Near_need) [] := by
  obtain ⟨fd, F⟩ := Df.Near_need
  obtain ⟨ds, hv, hb⟩ := (bnd0 F fun _ _ _ _ _ _ us hl => match us, hl with | [_, _], _ => rfl : ∃ ds, Vals [] ds ∧ L2.Binds K fd ["self", "numbers"] ds)
  exact ⟨_, fd, _, ds, T.kc_Near, T.m_Near_need, ok_Near_need T Df F, hb, hv⟩
end
section
variable {P : Program} {w : World} {K : PySem.W.Frag} {mg : Str → Option Value} {base : Heap}
theorem sc_Near_words : FnScope ["self", "numbers", "place", "far"] ["self", "numbers", "place"] (defScope s_Near_words) := ⟨rfl, rfl, rfl, by decide +kernel, rfl, by decide +kernel, by decide +kernel⟩
noncomputable def B_Near_words : M Fl :=
  (seqM (setM (e2 subD (e2 subD (e2 ixD (eV 1) (negM (ret (.int (1))))) (eV 2)) (ret (.int (1)))) (putS 3))
  (seqM (ifS (notM (bM (methM ["Part"] "holds" (fun _ => F_Part_holds) [] (e2 ixD (fldM ["Near"] "parts" (eV 0)) (negM (ret (.int (1))))) (consM (eV 3) nilM))))
  (raiseM "BadReach")
  (ret .nx))
  (retM (tupM (consM (methM ["Near"] "one_word" (fun _ => F_Form_one_word) [] (eV 0) (consM (e2 addD (slM (eV 1) (prt none) (prt (some (negM (ret (.int (1))))))) (frzM (lstM (consM (eV 3) nilM)))) nilM)) nilM)))))
noncomputable def F_Near_words : Fun := defF 4 B_Near_words
set_option maxHeartbeats 16000000 in
theorem ok_Near_words (T : Txt K mg) (Df : Defs K) {f : Addr} {fd : FuncData} (F : FunD K "words" "Near.words" (defArgs s_Near_words) (defBody s_Near_words) (defScope s_Near_words) [] [] f fd) : FnOk P w K mg base (L2.CX P w) 3 f fd ["self", "numbers", "place"] (spF K 3 F_Near_words) := by
  refine okF (k := 2) F sc_Near_words fun cdv A outer s H E Tb hr => ?_
  exact (s_cons (s_set (ps_set (i := 3) sc_Near_words.nd rfl (Or.inl rfl) (v_op op_sub s_sub (v_op op_sub s_sub (v_ix ix_seq s_ix (v_var (pv 1)) (v_neg v_int) (fun _ _ => rfl)) (v_var (pv 2))) v_int)))
  (s_cons (s_if (t_not (v_test (v_meth (Φ := (fun _ => F_Part_holds)) (fun _ _ => .nil) (len_app1 (len_cons len_nil) rfl) (pe_meC (k := 2) (cs := ["Part"]) (spc := fun c => spF K 2 ((fun _ => F_Part_holds) c)) (by intro c hc; simp only [List.mem_cons, List.not_mem_nil, or_false] at hc; rcases hc with rfl <;> first | exact Me.mono (me_Part_holds T Df) (by decide)) hr (by decide) (fun σ => passAt (takes_of rfl rfl rfl rfl) σ) (v_ix ix_seq s_ix (v_fld (by intro c hc; simp only [List.mem_cons, List.not_mem_nil, or_false] at hc; rcases hc with rfl <;> first | exact ⟨T.kc_Near, T.n_Near_parts⟩) (pe_fld (v_var (pv 0)) rfl)) (v_neg v_int) (fun _ _ => rfl)) (a_cons (v_var (pv 3)) a_nil))))) (s_one (s_raiseP (x := "BadReach") rfl (takes_of rfl rfl rfl rfl) (pmk_own PySem.F.excBase_ValueError (T.y.plain "BadReach" (by decide)).1 T.c_BadReach (T.y.plain "BadReach" (by decide)).2.1 (raises_own (T.y.plain "BadReach" (by decide)).2.2.1 (T.y.plain "BadReach" (by decide)).2.2.2) rfl))) s_nil)
  (s_one (s_ret (v_tup (a_cons (v_meth (Φ := (fun _ => F_Form_one_word)) (fun _ _ => .nil) (len_app1 (len_cons len_nil) rfl) (pe_meC (k := 2) (cs := ["Near"]) (spc := fun c => spF K 2 ((fun _ => F_Form_one_word) c)) (by intro c hc; simp only [List.mem_cons, List.not_mem_nil, or_false] at hc; rcases hc with rfl <;> first | exact Me.mono (me_Near_one_word T Df) (by decide)) hr (by decide) (fun σ => passAt (takes_of rfl rfl rfl rfl) σ) (v_var (pv 0)) (a_cons (v_op opA_add s_add (v_sl rfl (v_var (pv 1)) p_none (p_some (v_neg v_int))) (v_frz (o_lst (a_cons (v_var (pv 3)) a_nil)))) a_nil))) a_nil))))))
theorem me_Near_words (T : Txt K mg) (Df : Defs K) : Me P w K mg base (L2.CX P w) 3 "Near" "words" (spF K 3 F_Near_words) [] := by
  obtain ⟨fd, F⟩ := Df.Near_words
  obtain ⟨ds, hv, hb⟩ := (bnd0 F fun _ _ _ _ _ _ us hl => match us, hl with | [_, _, _], _ => rfl : ∃ ds, Vals [] ds ∧ L2.Binds K fd ["self", "numbers", "place"] ds)
  exact ⟨_, fd, _, ds, T.kc_Near, T.m_Near_words, ok_Near_words T Df F, hb, hv⟩
end
section
variable {P : Program} {w : World} {K : PySem.W.Frag} {mg : Str → Option Value} {base : Heap}
theorem sc_Far_need : FnScope ["self", "numbers"] ["self", "numbers"] (defScope s_Far_need) := ⟨rfl, rfl, rfl, by decide +kernel, rfl, by decide +kernel, by decide +kernel⟩
noncomputable def B_Far_need : M Fl :=
  (seqM (ifS (orM (bM (e2 eqD (eV 1) (frzM (lstM nilM)))) (notM (bM (callM F_is_whole [(.int (0)), (.int (65535))] (consM (e2 ixD (eV 1) (negM (ret (.int (1))))) nilM)))))
  (raiseM "BadDeed")
  (ret .nx))
  (exprM (methM ["Far"] "need_parts" (fun _ => F_Form_need_parts) [] (eV 0) (consM (slM (eV 1) (prt none) (prt (some (negM (ret (.int (1))))))) nilM))))
noncomputable def F_Far_need : Fun := defF 2 B_Far_need
set_option maxHeartbeats 16000000 in
theorem ok_Far_need (T : Txt K mg) (Df : Defs K) {f : Addr} {fd : FuncData} (F : FunD K "need" "Far.need" (defArgs s_Far_need) (defBody s_Far_need) (defScope s_Far_need) [] [] f fd) : FnOk P w K mg base (L2.CX P w) 4 f fd ["self", "numbers"] (spF K 2 F_Far_need) := by
  refine okF (k := 3) F sc_Far_need fun cdv A outer s H E Tb hr => ?_
  exact (s_cons (s_if (PW.pt (w_or (v_tcmp (opA_eq hr.units) s_eq (v_var (pv 1)) (v_frz (o_lst a_nil)) (nomark _)) (w_or1 (t_not (v_test (v_call (fun _ _ => (.cons (.int _) (.cons (.int _) .nil))) (len_app (len_cons len_nil) rfl) (pe_fS (fn_is_whole_d2 T Df) hr (by decide) (fun σ => passAt (takes_of rfl rfl rfl rfl) σ) (a_cons (v_ix ix_seq s_ix (v_var (pv 1)) (v_neg v_int) (fun _ _ => rfl)) a_nil)))))))) (s_one (s_raiseP (x := "BadDeed") rfl (takes_of rfl rfl rfl rfl) (pmk_own PySem.F.excBase_ValueError (T.y.plain "BadDeed" (by decide)).1 T.c_BadDeed (T.y.plain "BadDeed" (by decide)).2.1 (raises_own (T.y.plain "BadDeed" (by decide)).2.2.1 (T.y.plain "BadDeed" (by decide)).2.2.2) rfl))) s_nil)
  (s_one (s_expr (v_meth (Φ := (fun _ => F_Form_need_parts)) (fun _ _ => .nil) (len_app1 (len_cons len_nil) rfl) (pe_meC (k := 3) (cs := ["Far"]) (spc := fun c => spF K 2 ((fun _ => F_Form_need_parts) c)) (by intro c hc; simp only [List.mem_cons, List.not_mem_nil, or_false] at hc; rcases hc with rfl <;> first | exact Me.mono (me_Far_need_parts T Df) (by decide)) hr (by decide) (fun σ => passAt (takes_of rfl rfl rfl rfl) σ) (v_var (pv 0)) (a_cons (v_sl rfl (v_var (pv 1)) p_none (p_some (v_neg v_int))) a_nil))))))
theorem me_Far_need (T : Txt K mg) (Df : Defs K) : Me P w K mg base (L2.CX P w) 4 "Far" "need" (spF K 2 F_Far_need) [] := by
  obtain ⟨fd, F⟩ := Df.Far_need
  obtain ⟨ds, hv, hb⟩ := (bnd0 F fun _ _ _ _ _ _ us hl => match us, hl with | [_, _], _ => rfl : ∃ ds, Vals [] ds ∧ L2.Binds K fd ["self", "numbers"] ds)
  exact ⟨_, fd, _, ds, T.kc_Far, T.m_Far_need, ok_Far_need T Df F, hb, hv⟩
end
section
variable {P : Program} {w : World} {K : PySem.W.Frag} {mg : Str → Option Value} {base : Heap}
theorem sc_Far_words : FnScope ["self", "numbers", "place"] ["self", "numbers", "place"] (defScope s_Far_words) := ⟨rfl, rfl, rfl, by decide +kernel, rfl, by decide +kernel, by decide +kernel⟩
noncomputable def B_Far_words : M Fl :=
  (retM (tupM (consM (methM ["Far"] "one_word" (fun _ => F_Form_one_word) [] (eV 0) (consM (slM (eV 1) (prt none) (prt (some (negM (ret (.int (1))))))) nilM)) (consM (e2 ixD (eV 1) (negM (ret (.int (1))))) nilM))))
noncomputable def F_Far_words : Fun := defF 3 B_Far_words
set_option maxHeartbeats 16000000 in
theorem ok_Far_words (T : Txt K mg) (Df : Defs K) {f : Addr} {fd : FuncData} (F : FunD K "words" "Far.words" (defArgs s_Far_words) (defBody s_Far_words) (defScope s_Far_words) [] [] f fd) : FnOk P w K mg base (L2.CX P w) 3 f fd ["self", "numbers", "place"] (spF K 3 F_Far_words) := by
  refine okF (k := 2) F sc_Far_words fun cdv A outer s H E Tb hr => ?_
  exact (s_one (s_ret (v_tup (a_cons (v_meth (Φ := (fun _ => F_Form_one_word)) (fun _ _ => .nil) (len_app1 (len_cons len_nil) rfl) (pe_meC (k := 2) (cs := ["Far"]) (spc := fun c => spF K 2 ((fun _ => F_Form_one_word) c)) (by intro c hc; simp only [List.mem_cons, List.not_mem_nil, or_false] at hc; rcases hc with rfl <;> first | exact Me.mono (me_Far_one_word T Df) (by decide)) hr (by decide) (fun σ => passAt (takes_of rfl rfl rfl rfl) σ) (v_var (pv 0)) (a_cons (v_sl rfl (v_var (pv 1)) p_none (p_some (v_neg v_int))) a_nil))) (a_cons (v_ix ix_seq s_ix (v_var (pv 1)) (v_neg v_int) (fun _ _ => rfl)) a_nil)))))
theorem me_Far_words (T : Txt K mg) (Df : Defs K) : Me P w K mg base (L2.CX P w) 3 "Far" "words" (spF K 3 F_Far_words) [] := by
  obtain ⟨fd, F⟩ := Df.Far_words
  obtain ⟨ds, hv, hb⟩ := (bnd0 F fun _ _ _ _ _ _ us hl => match us, hl with | [_, _, _], _ => rfl : ∃ ds, Vals [] ds ∧ L2.Binds K fd ["self", "numbers", "place"] ds)
  exact ⟨_, fd, _, ds, T.kc_Far, T.m_Far_words, ok_Far_words T Df F, hb, hv⟩
end
end Lk04


set_option autoImplicit false
set_option Elab.async false
set_option linter.all false
set_option maxRecDepth 100000
set_option maxHeartbeats 4000000
namespace Lk04
open PySem PySem.Spec PyProof.Rows L2 Bm Fv
abbrev k_PLAIN : D := .tup [.str "halt", .str "rest", .str "back", .str "say", .str "ask", .str "push", .str "pop"]
abbrev k_PAIRS : D := .tup [.str "add", .str "less", .str "and", .str "or", .str "xor", .str "left", .str "right", .str "turn"]
abbrev k_WHENS : D := .tup [.str "always", .str "zero", .str "some", .str "carry", .str "clear", .str "minus", .str "over"]
abbrev k_NUMBERED : D := .tup [.str "plus", .str "set", .str "high", .str "load", .str "store"]
abbrev k_NAMES : D := .tup [.str "plain", .str "pair", .str "plus", .str "set", .str "high", .str "load", .str "store", .str "jump", .str "far jump", .str "call", .str "far call"]
section
variable {P : Program} {w : World} {K : PySem.W.Frag} {mg : Str → Option Value} {base : Heap}
theorem sc_Book_init : FnScope ["self", "high", "middle", "small"] ["self"] (defScope s_Book_init) := ⟨rfl, rfl, rfl, by decide +kernel, rfl, by decide +kernel, by decide +kernel⟩
noncomputable def B_Book_init : M Fl :=
  (seqM (parM3 1 2 3 (consM (dropM (makeM "Part" F_Part_init [(.bl false)] (consM (ret (.int (9))) (consM (ret (.int (3))) nilM)))) (consM (dropM (makeM "Part" F_Part_init [(.bl false)] (consM (ret (.int (6))) (consM (ret (.int (3))) nilM)))) (consM (dropM (makeM "Part" F_Part_init [(.bl false)] (consM (ret (.int (0))) (consM (ret (.int (6))) nilM)))) nilM))))
  (seqM (setF ["Book"] "forms" (eV 0) (dispM [((ret (.str "plain")), (dropM (makeM "Form" F_Form_init [] (consM (ret (.int (0))) (consM (frzM (lstM (consM (eV 1) (consM (eV 2) nilM)))) nilM))))), ((ret (.str "pair")), (dropM (makeM "Form" F_Form_init [] (consM (ret (.int (1))) (consM (frzM (lstM (consM (eV 1) (consM (eV 2) (consM (dropM (makeM "Part" F_Part_init [(.bl false)] (consM (ret (.int (3))) (consM (ret (.int (3))) nilM)))) (consM (dropM (makeM "Part" F_Part_init [(.bl false)] (consM (ret (.int (0))) (consM (ret (.int (3))) nilM)))) nilM)))))) nilM)))))]))
  (seqM (dputM (fldM ["Book"] "forms" (eV 0)) (ret (.str "plus")) (dropM (makeM "Form" F_Form_init [] (consM (ret (.int (2))) (consM (frzM (lstM (consM (eV 1) (consM (eV 2) (consM (dropM (makeK "Part" F_Part_init (consM (ret (.int (0))) (consM (ret (.int (6))) nilM)) (consM (ret (.bl true)) nilM))) nilM))))) nilM)))))
  (seqM (dputM (fldM ["Book"] "forms" (eV 0)) (ret (.str "set")) (dropM (makeM "Form" F_Form_init [] (consM (ret (.int (3))) (consM (frzM (lstM (consM (eV 1) (consM (dropM (makeM "Part" F_Part_init [(.bl false)] (consM (ret (.int (0))) (consM (ret (.int (9))) nilM)))) nilM)))) nilM)))))
  (seqM (dputM (fldM ["Book"] "forms" (eV 0)) (ret (.str "high")) (dropM (makeM "Form" F_Form_init [] (consM (ret (.int (4))) (consM (frzM (lstM (consM (eV 1) (consM (dropM (makeM "Part" F_Part_init [(.bl false)] (consM (ret (.int (0))) (consM (ret (.int (7))) nilM)))) nilM)))) nilM)))))
  (seqM (dputM (fldM ["Book"] "forms" (eV 0)) (ret (.str "load")) (dropM (makeM "Form" F_Form_init [] (consM (ret (.int (5))) (consM (frzM (lstM (consM (eV 1) (consM (eV 2) (consM (eV 3) nilM))))) nilM)))))
  (seqM (dputM (fldM ["Book"] "forms" (eV 0)) (ret (.str "store")) (dropM (makeM "Form" F_Form_init [] (consM (ret (.int (6))) (consM (frzM (lstM (consM (eV 1) (consM (eV 2) (consM (eV 3) nilM))))) nilM)))))
  (seqM (dputM (fldM ["Book"] "forms" (eV 0)) (ret (.str "jump")) (dropM (makeM "Near" F_Form_init [] (consM (ret (.int (7))) (consM (frzM (lstM (consM (eV 1) (consM (dropM (makeK "Part" F_Part_init (consM (ret (.int (0))) (consM (ret (.int (5))) nilM)) (consM (ret (.bl true)) nilM))) nilM)))) nilM)))))
  (seqM (dputM (fldM ["Book"] "forms" (eV 0)) (ret (.str "far jump")) (dropM (makeM "Far" F_Form_init [] (consM (ret (.int (8))) (consM (frzM (lstM (consM (eV 1) nilM))) nilM)))))
  (seqM (dputM (fldM ["Book"] "forms" (eV 0)) (ret (.str "call")) (dropM (makeM "Near" F_Form_init [] (consM (ret (.int (9))) (consM (frzM (lstM (consM (dropM (makeK "Part" F_Part_init (consM (ret (.int (0))) (consM (ret (.int (5))) nilM)) (consM (ret (.bl true)) nilM))) nilM))) nilM)))))
  (dputM (fldM ["Book"] "forms" (eV 0)) (ret (.str "far call")) (dropM (makeM "Far" F_Form_init [] (consM (ret (.int (10))) (consM (frzM (lstM nilM)) nilM)))))))))))))))
noncomputable def F_Book_init : Fun := defF 4 B_Book_init
set_option maxHeartbeats 16000000 in
theorem ok_Book_init (T : Txt K mg) (Df : Defs K) {f : Addr} {fd : FuncData} (F : FunD K "__init__" "Book.__init__" (defArgs s_Book_init) (defBody s_Book_init) (defScope s_Book_init) [] [] f fd) : FnOk P w K mg base (L2.CX P w) 3 f fd ["self"] (spF K 1 F_Book_init) := by
  refine okF (k := 2) F sc_Book_init fun cdv A outer s H E Tb hr => ?_
  exact (s_cons (s_par3 (ps_par3 (i := 1) (j := 2) (l := 3) (by rfl) sc_Book_init.nd rfl rfl rfl (by decide) (by decide) (by decide) rfl rfl rfl (a_cons (v_drop (v_make (fun _ _ => (.cons (.bl _) .nil)) (len_app1 (len_cons (len_cons len_nil)) rfl) (pe_makeS (mk_Part_d1 T Df) hr (by decide) (fun σ => passAt (takes_of rfl rfl rfl rfl) σ) (a_cons v_int (a_cons v_int a_nil))))) (a_cons (v_drop (v_make (fun _ _ => (.cons (.bl _) .nil)) (len_app1 (len_cons (len_cons len_nil)) rfl) (pe_makeS (mk_Part_d1 T Df) hr (by decide) (fun σ => passAt (takes_of rfl rfl rfl rfl) σ) (a_cons v_int (a_cons v_int a_nil))))) (a_cons (v_drop (v_make (fun _ _ => (.cons (.bl _) .nil)) (len_app1 (len_cons (len_cons len_nil)) rfl) (pe_makeS (mk_Part_d1 T Df) hr (by decide) (fun σ => passAt (takes_of rfl rfl rfl rfl) σ) (a_cons v_int (a_cons v_int a_nil))))) a_nil))) (by rfl)))
  (s_cons (s_setF (by intro c hc; simp only [List.mem_cons, List.not_mem_nil, or_false] at hc; rcases hc with rfl <;> first | exact ⟨T.kc_Book, T.n_Book_forms⟩) (ps_fld (v_var (pv 0)) (v_disp (fps := [((ret (.str "plain")), (dropM (makeM "Form" F_Form_init [] (consM (ret (.int (0))) (consM (frzM (lstM (consM (eV 1) (consM (eV 2) nilM)))) nilM))))), ((ret (.str "pair")), (dropM (makeM "Form" F_Form_init [] (consM (ret (.int (1))) (consM (frzM (lstM (consM (eV 1) (consM (eV 2) (consM (dropM (makeM "Part" F_Part_init [(.bl false)] (consM (ret (.int (3))) (consM (ret (.int (3))) nilM)))) (consM (dropM (makeM "Part" F_Part_init [(.bl false)] (consM (ret (.int (0))) (consM (ret (.int (3))) nilM)))) nilM)))))) nilM)))))]) (pe_disp (pps_cons (show PE _ _ (tF _ (ret (.str "plain"))) from v_str) (show PE _ _ (tF _ (dropM (makeM "Form" F_Form_init [] (consM (ret (.int (0))) (consM (frzM (lstM (consM (eV 1) (consM (eV 2) nilM)))) nilM))))) from (v_drop (v_make (fun _ _ => .nil) (len_app1 (len_cons (len_cons len_nil)) rfl) (pe_makeS (mk_Form T Df) hr (by decide) (fun σ => passAt (takes_of rfl rfl rfl rfl) σ) (a_cons v_int (a_cons (v_frz (o_lst (a_cons (v_var (pv 1)) (a_cons (v_var (pv 2)) a_nil)))) a_nil)))))) (pps_cons (show PE _ _ (tF _ (ret (.str "pair"))) from v_str) (show PE _ _ (tF _ (dropM (makeM "Form" F_Form_init [] (consM (ret (.int (1))) (consM (frzM (lstM (consM (eV 1) (consM (eV 2) (consM (dropM (makeM "Part" F_Part_init [(.bl false)] (consM (ret (.int (3))) (consM (ret (.int (3))) nilM)))) (consM (dropM (makeM "Part" F_Part_init [(.bl false)] (consM (ret (.int (0))) (consM (ret (.int (3))) nilM)))) nilM)))))) nilM))))) from (v_drop (v_make (fun _ _ => .nil) (len_app1 (len_cons (len_cons len_nil)) rfl) (pe_makeS (mk_Form T Df) hr (by decide) (fun σ => passAt (takes_of rfl rfl rfl rfl) σ) (a_cons v_int (a_cons (v_frz (o_lst (a_cons (v_var (pv 1)) (a_cons (v_var (pv 2)) (a_cons (v_drop (v_make (fun _ _ => (.cons (.bl _) .nil)) (len_app1 (len_cons (len_cons len_nil)) rfl) (pe_makeS (mk_Part_d1 T Df) hr (by decide) (fun σ => passAt (takes_of rfl rfl rfl rfl) σ) (a_cons v_int (a_cons v_int a_nil))))) (a_cons (v_drop (v_make (fun _ _ => (.cons (.bl _) .nil)) (len_app1 (len_cons (len_cons len_nil)) rfl) (pe_makeS (mk_Part_d1 T Df) hr (by decide) (fun σ => passAt (takes_of rfl rfl rfl rfl) σ) (a_cons v_int (a_cons v_int a_nil))))) a_nil)))))) a_nil)))))) pps_nil)) (by rfl) (by rfl) (fun z => by cases z) (by decide))) rfl))
  (s_cons (s_dput (ps_dput (hu_of hr) (v_fld (by intro c hc; simp only [List.mem_cons, List.not_mem_nil, or_false] at hc; rcases hc with rfl <;> first | exact ⟨T.kc_Book, T.n_Book_forms⟩) (pe_fld (v_var (pv 0)) rfl)) v_str (v_drop (v_make (fun _ _ => .nil) (len_app1 (len_cons (len_cons len_nil)) rfl) (pe_makeS (mk_Form T Df) hr (by decide) (fun σ => passAt (takes_of rfl rfl rfl rfl) σ) (a_cons v_int (a_cons (v_frz (o_lst (a_cons (v_var (pv 1)) (a_cons (v_var (pv 2)) (a_cons (v_drop (v_makeK rfl (len_cons (len_cons len_nil)) (len_cons len_nil) rfl (pe_mkK (mkk_Part_signs T Df) hr (by decide) (passes_call (takes_of rfl rfl rfl rfl) fun _ _ _ _ h => h) (a_cons v_int (a_cons v_int a_nil)) (k_cons v_bl k_nil)))) a_nil))))) a_nil))))) rfl))
  (s_cons (s_dput (ps_dput (hu_of hr) (v_fld (by intro c hc; simp only [List.mem_cons, List.not_mem_nil, or_false] at hc; rcases hc with rfl <;> first | exact ⟨T.kc_Book, T.n_Book_forms⟩) (pe_fld (v_var (pv 0)) rfl)) v_str (v_drop (v_make (fun _ _ => .nil) (len_app1 (len_cons (len_cons len_nil)) rfl) (pe_makeS (mk_Form T Df) hr (by decide) (fun σ => passAt (takes_of rfl rfl rfl rfl) σ) (a_cons v_int (a_cons (v_frz (o_lst (a_cons (v_var (pv 1)) (a_cons (v_drop (v_make (fun _ _ => (.cons (.bl _) .nil)) (len_app1 (len_cons (len_cons len_nil)) rfl) (pe_makeS (mk_Part_d1 T Df) hr (by decide) (fun σ => passAt (takes_of rfl rfl rfl rfl) σ) (a_cons v_int (a_cons v_int a_nil))))) a_nil)))) a_nil))))) rfl))
  (s_cons (s_dput (ps_dput (hu_of hr) (v_fld (by intro c hc; simp only [List.mem_cons, List.not_mem_nil, or_false] at hc; rcases hc with rfl <;> first | exact ⟨T.kc_Book, T.n_Book_forms⟩) (pe_fld (v_var (pv 0)) rfl)) v_str (v_drop (v_make (fun _ _ => .nil) (len_app1 (len_cons (len_cons len_nil)) rfl) (pe_makeS (mk_Form T Df) hr (by decide) (fun σ => passAt (takes_of rfl rfl rfl rfl) σ) (a_cons v_int (a_cons (v_frz (o_lst (a_cons (v_var (pv 1)) (a_cons (v_drop (v_make (fun _ _ => (.cons (.bl _) .nil)) (len_app1 (len_cons (len_cons len_nil)) rfl) (pe_makeS (mk_Part_d1 T Df) hr (by decide) (fun σ => passAt (takes_of rfl rfl rfl rfl) σ) (a_cons v_int (a_cons v_int a_nil))))) a_nil)))) a_nil))))) rfl))
  (s_cons (s_dput (ps_dput (hu_of hr) (v_fld (by intro c hc; simp only [List.mem_cons, List.not_mem_nil, or_false] at hc; rcases hc with rfl <;> first | exact ⟨T.kc_Book, T.n_Book_forms⟩) (pe_fld (v_var (pv 0)) rfl)) v_str (v_drop (v_make (fun _ _ => .nil) (len_app1 (len_cons (len_cons len_nil)) rfl) (pe_makeS (mk_Form T Df) hr (by decide) (fun σ => passAt (takes_of rfl rfl rfl rfl) σ) (a_cons v_int (a_cons (v_frz (o_lst (a_cons (v_var (pv 1)) (a_cons (v_var (pv 2)) (a_cons (v_var (pv 3)) a_nil))))) a_nil))))) rfl))
  (s_cons (s_dput (ps_dput (hu_of hr) (v_fld (by intro c hc; simp only [List.mem_cons, List.not_mem_nil, or_false] at hc; rcases hc with rfl <;> first | exact ⟨T.kc_Book, T.n_Book_forms⟩) (pe_fld (v_var (pv 0)) rfl)) v_str (v_drop (v_make (fun _ _ => .nil) (len_app1 (len_cons (len_cons len_nil)) rfl) (pe_makeS (mk_Form T Df) hr (by decide) (fun σ => passAt (takes_of rfl rfl rfl rfl) σ) (a_cons v_int (a_cons (v_frz (o_lst (a_cons (v_var (pv 1)) (a_cons (v_var (pv 2)) (a_cons (v_var (pv 3)) a_nil))))) a_nil))))) rfl))
  (s_cons (s_dput (ps_dput (hu_of hr) (v_fld (by intro c hc; simp only [List.mem_cons, List.not_mem_nil, or_false] at hc; rcases hc with rfl <;> first | exact ⟨T.kc_Book, T.n_Book_forms⟩) (pe_fld (v_var (pv 0)) rfl)) v_str (v_drop (v_make (fun _ _ => .nil) (len_app1 (len_cons (len_cons len_nil)) rfl) (pe_makeS (mk_Near T Df) hr (by decide) (fun σ => passAt (takes_of rfl rfl rfl rfl) σ) (a_cons v_int (a_cons (v_frz (o_lst (a_cons (v_var (pv 1)) (a_cons (v_drop (v_makeK rfl (len_cons (len_cons len_nil)) (len_cons len_nil) rfl (pe_mkK (mkk_Part_signs T Df) hr (by decide) (passes_call (takes_of rfl rfl rfl rfl) fun _ _ _ _ h => h) (a_cons v_int (a_cons v_int a_nil)) (k_cons v_bl k_nil)))) a_nil)))) a_nil))))) rfl))
  (s_cons (s_dput (ps_dput (hu_of hr) (v_fld (by intro c hc; simp only [List.mem_cons, List.not_mem_nil, or_false] at hc; rcases hc with rfl <;> first | exact ⟨T.kc_Book, T.n_Book_forms⟩) (pe_fld (v_var (pv 0)) rfl)) v_str (v_drop (v_make (fun _ _ => .nil) (len_app1 (len_cons (len_cons len_nil)) rfl) (pe_makeS (mk_Far T Df) hr (by decide) (fun σ => passAt (takes_of rfl rfl rfl rfl) σ) (a_cons v_int (a_cons (v_frz (o_lst (a_cons (v_var (pv 1)) a_nil))) a_nil))))) rfl))
  (s_cons (s_dput (ps_dput (hu_of hr) (v_fld (by intro c hc; simp only [List.mem_cons, List.not_mem_nil, or_false] at hc; rcases hc with rfl <;> first | exact ⟨T.kc_Book, T.n_Book_forms⟩) (pe_fld (v_var (pv 0)) rfl)) v_str (v_drop (v_make (fun _ _ => .nil) (len_app1 (len_cons (len_cons len_nil)) rfl) (pe_makeS (mk_Near T Df) hr (by decide) (fun σ => passAt (takes_of rfl rfl rfl rfl) σ) (a_cons v_int (a_cons (v_frz (o_lst (a_cons (v_drop (v_makeK rfl (len_cons (len_cons len_nil)) (len_cons len_nil) rfl (pe_mkK (mkk_Part_signs T Df) hr (by decide) (passes_call (takes_of rfl rfl rfl rfl) fun _ _ _ _ h => h) (a_cons v_int (a_cons v_int a_nil)) (k_cons v_bl k_nil)))) a_nil))) a_nil))))) rfl))
  (s_one (s_dput (ps_dput (hu_of hr) (v_fld (by intro c hc; simp only [List.mem_cons, List.not_mem_nil, or_false] at hc; rcases hc with rfl <;> first | exact ⟨T.kc_Book, T.n_Book_forms⟩) (pe_fld (v_var (pv 0)) rfl)) v_str (v_drop (v_make (fun _ _ => .nil) (len_app1 (len_cons (len_cons len_nil)) rfl) (pe_makeS (mk_Far T Df) hr (by decide) (fun σ => passAt (takes_of rfl rfl rfl rfl) σ) (a_cons v_int (a_cons (v_frz (o_lst a_nil)) a_nil))))) rfl)))))))))))))
theorem mk_Book (T : Txt K mg) (Df : Defs K) : Mk' P w K mg base (L2.CX P w) 3 "Book" (spF K 1 F_Book_init) [] := by
  obtain ⟨fd, F⟩ := Df.Book_init
  obtain ⟨ds, hv, hb⟩ := (bnd0 F fun _ _ _ _ _ _ us hl => match us, hl with | [_], _ => rfl : ∃ ds, Vals [] ds ∧ L2.Binds K fd ["self"] ds)
  exact ⟨_, fd, _, ds, T.km_Book, ok_Book_init T Df F, T.c_Book, hb, hv⟩
end
section
variable {P : Program} {w : World} {K : PySem.W.Frag} {mg : Str → Option Value} {base : Heap}
theorem sc_deed_of : FnScope ["name", "numbers", "kind", "slot"] ["name", "numbers"] (defScope s_deed_of) := ⟨rfl, rfl, rfl, by decide +kernel, rfl, by decide +kernel, by decide +kernel⟩
noncomputable def B_deed_of : M Fl :=
  (seqM (ifS (bM (e2 eqD (eV 0) (ret (.str "plain"))))
  (seqM (setM (eV 1) (lstG 2 (consG (putS 2) (consG (putS 3) nilG))))
  (seqM (ifS (orM (bM (e2 geD (eV 2) (cN lenD (consM (ret k_PLAIN) nilM)))) (andM (bM (e2 ltD (eV 2) (ret (.int (3))))) (bM (e2 gtD (eV 3) (ret (.int (0)))))))
  (raiseM "NoDeed")
  (ret .nx))
  (retM (e2 addD (tupM (consM (e2 ixD (ret k_PLAIN) (eV 2)) nilM)) (ifM (bM (e2 geD (eV 2) (ret (.int (3))))) (tupM (consM (eV 3) nilM)) (tupM nilM))))))
  (ret .nx))
  (seqM (ifS (bM (e2 eqD (eV 0) (ret (.str "pair"))))
  (retM (e2 addD (tupM (consM (e2 ixD (ret k_PAIRS) (e2 ixD (eV 1) (negM (ret (.int (1)))))) nilM)) (cN tupleD (consM (slM (eV 1) (prt none) (prt (some (negM (ret (.int (1))))))) nilM))))
  (ret .nx))
  (seqM (ifS (bM (e2 inD (eV 0) (ret k_NUMBERED)))
  (retM (e2 addD (tupM (consM (eV 0) nilM)) (cN tupleD (consM (eV 1) nilM))))
  (ret .nx))
  (seqM (ifS (bM (mnM "str" endswithD (eV 0) (consM (ret (.str "call")) nilM)))
  (retM (tupM (consM (ret (.str "call")) (consM (e2 ixD (eV 1) (ret (.int (0)))) (consM (mnM "str" startswithD (eV 0) (consM (ret (.str "far")) nilM)) nilM)))))
  (ret .nx))
  (seqM (ifS (bM (e2 geD (e2 ixD (eV 1) (ret (.int (0)))) (cN lenD (consM (ret k_WHENS) nilM))))
  (raiseM "NoDeed")
  (ret .nx))
  (retM (tupM (consM (ret (.str "jump")) (consM (e2 ixD (ret k_WHENS) (e2 ixD (eV 1) (ret (.int (0))))) (consM (e2 ixD (eV 1) (ret (.int (1)))) (consM (mnM "str" startswithD (eV 0) (consM (ret (.str "far")) nilM)) nilM)))))))))))
noncomputable def F_deed_of : Fun := defF 4 B_deed_of
set_option maxHeartbeats 16000000 in
theorem ok_deed_of (T : Txt K mg) (Df : Defs K) {f : Addr} {fd : FuncData} (F : FunD K "deed_of" "deed_of" (defArgs s_deed_of) (defBody s_deed_of) (defScope s_deed_of) [] [] f fd) : FnOk P w K mg base (L2.CX P w) 1 f fd ["name", "numbers"] (spF K 2 F_deed_of) := by
  refine okF (k := 0) F sc_deed_of fun cdv A outer s H E Tb hr => ?_
  exact (s_cons (s_if (v_tcmp (opA_eq hr.units) s_eq (v_var (pv 0)) v_str (nomark _)) (s_cons (s_asg (ps_asg (v_var (pv 1)) (g_lst (pg_lst rfl (gs_cons (pgs_cons (g_name (pg_name (i := 2) sc_deed_of.nd rfl (Or.inl rfl))) (gs_cons (pgs_cons (g_name (pg_name (i := 3) sc_deed_of.nd rfl (Or.inl rfl))) gs_nil))))))))
  (s_cons (s_if (PW.pt (w_or (v_tcmp op_ge s_ge (v_var (pv 2)) (v_b s_len (pe_callB call_len rfl T.b_len (by decide +kernel) (a_cons (v_con (pe_glob (v := .ref (He.ga K "PLAIN")) rfl T.c_PLAIN rfl) (fun G ι => .tup' (T.t_PLAIN G) (.cons (by first | exact .str _ | exact .int _) (.cons (by first | exact .str _ | exact .int _) (.cons (by first | exact .str _ | exact .int _) (.cons (by first | exact .str _ | exact .int _) (.cons (by first | exact .str _ | exact .int _) (.cons (by first | exact .str _ | exact .int _) (.cons (by first | exact .str _ | exact .int _) .nil))))))))) a_nil))) (nomark _)) (w_or1 (PW.pt (w_and (v_tcmp op_lt s_lt (v_var (pv 2)) (v_con (pe_gc rfl T.i_BARE) (fun _ _ => .int _)) (nomark _)) (w_and1 (v_tcmp op_gt s_gt (v_var (pv 3)) v_int (nomark _)))))))) (s_one (s_raiseP (x := "NoDeed") rfl (takes_of rfl rfl rfl rfl) (pmk_own PySem.F.excBase_ValueError (T.y.plain "NoDeed" (by decide)).1 T.c_NoDeed (T.y.plain "NoDeed" (by decide)).2.1 (raises_own (T.y.plain "NoDeed" (by decide)).2.2.1 (T.y.plain "NoDeed" (by decide)).2.2.2) rfl))) s_nil)
  (s_one (s_ret (v_op opA_add s_add (v_tup (a_cons (v_ix ix_seq s_ix (v_con (pe_glob (v := .ref (He.ga K "PLAIN")) rfl T.c_PLAIN rfl) (fun G ι => .tup' (T.t_PLAIN G) (.cons (by first | exact .str _ | exact .int _) (.cons (by first | exact .str _ | exact .int _) (.cons (by first | exact .str _ | exact .int _) (.cons (by first | exact .str _ | exact .int _) (.cons (by first | exact .str _ | exact .int _) (.cons (by first | exact .str _ | exact .int _) (.cons (by first | exact .str _ | exact .int _) .nil))))))))) (v_var (pv 2)) (fun _ _ => rfl)) a_nil)) (v_if (v_tcmp op_ge s_ge (v_var (pv 2)) (v_con (pe_gc rfl T.i_BARE) (fun _ _ => .int _)) (nomark _)) (v_tup (a_cons (v_var (pv 3)) a_nil)) (v_tup a_nil))))))) s_nil)
  (s_cons (s_if (v_tcmp (opA_eq hr.units) s_eq (v_var (pv 0)) v_str (nomark _)) (s_one (s_ret (v_op opA_add s_add (v_tup (a_cons (v_ix ix_seq s_ix (v_con (pe_glob (v := .ref (He.ga K "PAIRS")) rfl T.c_PAIRS rfl) (fun G ι => .tup' (T.t_PAIRS G) (.cons (by first | exact .str _ | exact .int _) (.cons (by first | exact .str _ | exact .int _) (.cons (by first | exact .str _ | exact .int _) (.cons (by first | exact .str _ | exact .int _) (.cons (by first | exact .str _ | exact .int _) (.cons (by first | exact .str _ | exact .int _) (.cons (by first | exact .str _ | exact .int _) (.cons (by first | exact .str _ | exact .int _) .nil)))))))))) (v_ix ix_seq s_ix (v_var (pv 1)) (v_neg v_int) (fun _ _ => rfl)) (fun _ _ => rfl)) a_nil)) (v_b s_tuple (pe_callTy call_tuple_of rfl T.b_tuple (by decide +kernel) (a_cons (v_sl rfl (v_var (pv 1)) p_none (p_some (v_neg v_int))) a_nil)))))) s_nil)
  (s_cons (s_if (v_tcmp opA_in s_in (v_var (pv 0)) (v_con (pe_glob (v := .ref (He.ga K "NUMBERED")) rfl T.c_NUMBERED rfl) (fun G ι => .tup' (T.t_NUMBERED G) (.cons (by first | exact .str _ | exact .int _) (.cons (by first | exact .str _ | exact .int _) (.cons (by first | exact .str _ | exact .int _) (.cons (by first | exact .str _ | exact .int _) (.cons (by first | exact .str _ | exact .int _) .nil))))))) (by rfl)) (s_one (s_ret (v_op opA_add s_add (v_tup (a_cons (v_var (pv 0)) a_nil)) (v_b s_tuple (pe_callTy call_tuple_of rfl T.b_tuple (by decide +kernel) (a_cons (v_var (pv 1)) a_nil)))))) s_nil)
  (s_cons (s_if (v_test (v_mn s_endswith (pe_bm PySem.F.plainAttrs_str PySem.F.slot_str_endswith PySem.F.type_str_endswith mt_endswith (v_var (pv 0)) (a_cons v_str a_nil)))) (s_one (s_ret (v_tup (a_cons v_str (a_cons (v_ix ix_seq s_ix (v_var (pv 1)) v_int (fun _ _ => rfl)) (a_cons (v_mn s_startswith (pe_bm PySem.F.plainAttrs_str PySem.F.slot_str_startswith PySem.F.type_str_startswith mt_startswith (v_var (pv 0)) (a_cons v_str a_nil))) a_nil)))))) s_nil)
  (s_cons (s_if (v_tcmp op_ge s_ge (v_ix ix_seq s_ix (v_var (pv 1)) v_int (fun _ _ => rfl)) (v_b s_len (pe_callB call_len rfl T.b_len (by decide +kernel) (a_cons (v_con (pe_glob (v := .ref (He.ga K "WHENS")) rfl T.c_WHENS rfl) (fun G ι => .tup' (T.t_WHENS G) (.cons (by first | exact .str _ | exact .int _) (.cons (by first | exact .str _ | exact .int _) (.cons (by first | exact .str _ | exact .int _) (.cons (by first | exact .str _ | exact .int _) (.cons (by first | exact .str _ | exact .int _) (.cons (by first | exact .str _ | exact .int _) (.cons (by first | exact .str _ | exact .int _) .nil))))))))) a_nil))) (nomark _)) (s_one (s_raiseP (x := "NoDeed") rfl (takes_of rfl rfl rfl rfl) (pmk_own PySem.F.excBase_ValueError (T.y.plain "NoDeed" (by decide)).1 T.c_NoDeed (T.y.plain "NoDeed" (by decide)).2.1 (raises_own (T.y.plain "NoDeed" (by decide)).2.2.1 (T.y.plain "NoDeed" (by decide)).2.2.2) rfl))) s_nil)
  (s_one (s_ret (v_tup (a_cons v_str (a_cons (v_ix ix_seq s_ix (v_con (pe_glob (v := .ref (He.ga K "WHENS")) rfl T.c_WHENS rfl) (fun G ι => .tup' (T.t_WHENS G) (.cons (by first | exact .str _ | exact .int _) (.cons (by first | exact .str _ | exact .int _) (.cons (by first | exact .str _ | exact .int _) (.cons (by first | exact .str _ | exact .int _) (.cons (by first | exact .str _ | exact .int _) (.cons (by first | exact .str _ | exact .int _) (.cons (by first | exact .str _ | exact .int _) .nil))))))))) (v_ix ix_seq s_ix (v_var (pv 1)) v_int (fun _ _ => rfl)) (fun _ _ => rfl)) (a_cons (v_ix ix_seq s_ix (v_var (pv 1)) v_int (fun _ _ => rfl)) (a_cons (v_mn s_startswith (pe_bm PySem.F.plainAttrs_str PySem.F.slot_str_startswith PySem.F.type_str_startswith mt_startswith (v_var (pv 0)) (a_cons v_str a_nil))) a_nil))))))))))))
theorem fn_deed_of (T : Txt K mg) (Df : Defs K) : Fn P w K mg base (L2.CX P w) 1 "deed_of" (spF K 2 F_deed_of) [] := by
  obtain ⟨fd, F⟩ := Df.deed_of
  exact .of F T.g_deed_of (bnd0 F fun _ _ _ _ _ _ us hl => match us, hl with | [_, _], _ => rfl) (ok_deed_of T Df F)
end
section
variable {P : Program} {w : World} {K : PySem.W.Frag} {mg : Str → Option Value} {base : Heap}
theorem sc_numbers_of : FnScope ["deed", "word", "rest", "at", "name"] ["deed"] (defScope s_numbers_of) := ⟨rfl, rfl, rfl, by decide +kernel, rfl, by decide +kernel, by decide +kernel⟩
noncomputable def B_numbers_of : M Fl :=
  (seqM (ifS (orM (notM (bM (cN isiD (consM (eV 0) (consM (ret (.typ "tuple")) nilM))))) (orM (bM (e2 eqD (eV 0) (tupM nilM))) (notM (bM (cN isiD (consM (e2 ixD (eV 0) (ret (.int (0)))) (consM (ret (.typ "str")) nilM)))))))
  (raiseM "BadDeed")
  (ret .nx))
  (seqM (parM 1 2 (consM (e2 ixD (eV 0) (ret (.int (0)))) (consM (pubM (cO listD (consM (slM (eV 0) (prt (some (ret (.int (1))))) (prt none)) nilM))) nilM)))
  (seqM (ifS (bM (e2 inD (eV 1) (ret k_PLAIN)))
  (seqM (setM (tidxM ["halt", "rest", "back", "say", "ask", "push", "pop"] (consM (eV 1) nilM)) (putS 3))
  (seqM (ifS (andM (bM (e2 ltD (eV 3) (ret (.int (3))))) (bM (e2 neD (eV 2) (frzM (lstM nilM)))))
  (raiseM "BadDeed")
  (ret .nx))
  (retM (tupM (consM (ret (.str "plain")) (consM (e2 addD (frzM (lstM (consM (eV 3) nilM))) (ifM (bM (e2 geD (eV 3) (ret (.int (3))))) (eV 2) (frzM (lstM (consM (ret (.int (0))) nilM))))) nilM))))))
  (ret .nx))
  (seqM (ifS (bM (e2 inD (eV 1) (ret k_PAIRS)))
  (retM (tupM (consM (ret (.str "pair")) (consM (e2 addD (eV 2) (frzM (lstM (consM (tidxM ["add", "less", "and", "or", "xor", "left", "right", "turn"] (consM (eV 1) nilM)) nilM)))) nilM))))
  (ret .nx))
  (seqM (ifS (bM (e2 inD (eV 1) (ret k_NUMBERED)))
  (retM (tupM (consM (eV 1) (consM (eV 2) nilM))))
  (ret .nx))
  (seqM (ifS (orM (bM (e2 notinD (eV 1) (tupM (consM (ret (.str "jump")) (consM (ret (.str "call")) nilM))))) (orM (bM (e2 neD (cN lenD (consM (eV 2) nilM)) (e2 addD (ret (.int (2))) (cN intD (consM (e2 eqD (eV 1) (ret (.str "jump"))) nilM))))) (notM (bM (cN isiD (consM (e2 ixD (eV 2) (negM (ret (.int (1))))) (consM (ret (.typ "bool")) nilM)))))))
  (raiseM "BadDeed")
  (ret .nx))
  (seqM (setM (ifM (bM (mtM "list" popO (eV 2) nilM)) (e2 addD (ret (.str "far ")) (eV 1)) (eV 1)) (putS 4))
  (seqM (ifS (bM (e2 eqD (eV 1) (ret (.str "jump"))))
  (seqM (ifS (orM (notM (bM (cN isiD (consM (e2 ixD (eV 2) (ret (.int (0)))) (consM (ret (.typ "str")) nilM))))) (bM (e2 notinD (e2 ixD (eV 2) (ret (.int (0)))) (ret k_WHENS))))
  (raiseM "BadDeed")
  (ret .nx))
  (setI (tidxM ["always", "zero", "some", "carry", "clear", "minus", "over"] (consM (e2 ixD (eV 2) (ret (.int (0)))) nilM)) (eV 2) (ret (.int (0)))))
  (ret .nx))
  (retM (tupM (consM (eV 4) (consM (eV 2) nilM))))))))))))
noncomputable def F_numbers_of : Fun := (finF (defF 5 B_numbers_of))
set_option maxHeartbeats 16000000 in
theorem ok_numbers_of (T : Txt K mg) (Df : Defs K) {f : Addr} {fd : FuncData} (F : FunD K "numbers_of" "numbers_of" (defArgs s_numbers_of) (defBody s_numbers_of) (defScope s_numbers_of) [] [] f fd) : FnOk P w K mg base (L2.CX P w) 1 f fd ["deed"] (spF K 1 F_numbers_of) := by
  refine FnOk.imp (okF (k := 0) F sc_numbers_of fun cdv A outer s H E Tb hr => ?_) imFin
  exact (s_cons (s_if (PW.pt (w_or (t_not (v_test (v_b s_isi (pe_callB call_isi rfl T.b_isinstance (by decide +kernel) (a_cons (v_var (pv 0)) (a_cons (v_con (pe_bltn (v := .ty "tuple") rfl T.b_tuple (by decide +kernel) rfl) (fun _ _ => .typ _)) a_nil)))))) (w_or (v_tcmp (opA_eq hr.units) s_eq (v_var (pv 0)) (v_tup a_nil) (nomark _)) (w_or1 (t_not (v_test (v_b s_isi (pe_callB call_isi rfl T.b_isinstance (by decide +kernel) (a_cons (v_ix ix_seq s_ix (v_var (pv 0)) v_int (fun _ _ => rfl)) (a_cons (v_con (pe_bltn (v := .ty "str") rfl T.b_str (by decide +kernel) rfl) (fun _ _ => .typ _)) a_nil)))))))))) (s_one (s_raiseP (x := "BadDeed") rfl (takes_of rfl rfl rfl rfl) (pmk_own PySem.F.excBase_ValueError (T.y.plain "BadDeed" (by decide)).1 T.c_BadDeed (T.y.plain "BadDeed" (by decide)).2.1 (raises_own (T.y.plain "BadDeed" (by decide)).2.2.1 (T.y.plain "BadDeed" (by decide)).2.2.2) rfl))) s_nil)
  (s_cons (s_par (ps_par (i := 1) (j := 2) (by rfl) sc_numbers_of.nd rfl rfl (by decide) rfl rfl (a_cons (v_ix ix_seq s_ix (v_var (pv 0)) v_int (fun _ _ => rfl)) (a_cons (v_pub (o_b s_list (pe_callTy call_list_of rfl T.b_list (by decide +kernel) (a_cons (v_sl rfl (v_var (pv 0)) (p_some v_int) p_none) a_nil)))) a_nil)) (by rfl)))
  (s_cons (s_if (v_tcmp opA_in s_in (v_var (pv 1)) (v_con (pe_glob (v := .ref (He.ga K "PLAIN")) rfl T.c_PLAIN rfl) (fun G ι => .tup' (T.t_PLAIN G) (.cons (by first | exact .str _ | exact .int _) (.cons (by first | exact .str _ | exact .int _) (.cons (by first | exact .str _ | exact .int _) (.cons (by first | exact .str _ | exact .int _) (.cons (by first | exact .str _ | exact .int _) (.cons (by first | exact .str _ | exact .int _) (.cons (by first | exact .str _ | exact .int _) .nil))))))))) (by rfl)) (s_cons (s_set (ps_set (i := 3) sc_numbers_of.nd rfl (Or.inl rfl) (v_tindex (ys := ["halt", "rest", "back", "say", "ask", "push", "pop"]) T.d_PLAIN T.t_PLAIN (pe_bm PySem.F.plainAttrs_tuple PySem.F.slot_tuple_index PySem.F.type_tuple_index mt_tup_index (pe_glob (v := .ref (He.ga K "PLAIN")) rfl T.c_PLAIN rfl) (a_cons (v_var (pv 1)) a_nil)))))
  (s_cons (s_if (PW.pt (w_and (v_tcmp op_lt s_lt (v_var (pv 3)) (v_con (pe_gc rfl T.i_BARE) (fun _ _ => .int _)) (nomark _)) (w_and1 (v_tcmp (opA_ne hr.units) s_ne (v_var (pv 2)) (v_frz (o_lst a_nil)) (nomark _))))) (s_one (s_raiseP (x := "BadDeed") rfl (takes_of rfl rfl rfl rfl) (pmk_own PySem.F.excBase_ValueError (T.y.plain "BadDeed" (by decide)).1 T.c_BadDeed (T.y.plain "BadDeed" (by decide)).2.1 (raises_own (T.y.plain "BadDeed" (by decide)).2.2.1 (T.y.plain "BadDeed" (by decide)).2.2.2) rfl))) s_nil)
  (s_one (s_ret (v_tup (a_cons v_str (a_cons (v_op opA_add s_add (v_frz (o_lst (a_cons (v_var (pv 3)) a_nil))) (v_if (v_tcmp op_ge s_ge (v_var (pv 3)) (v_con (pe_gc rfl T.i_BARE) (fun _ _ => .int _)) (nomark _)) (v_var (pv 2)) (v_frz (o_lst (a_cons v_int a_nil))))) a_nil))))))) s_nil)
  (s_cons (s_if (v_tcmp opA_in s_in (v_var (pv 1)) (v_con (pe_glob (v := .ref (He.ga K "PAIRS")) rfl T.c_PAIRS rfl) (fun G ι => .tup' (T.t_PAIRS G) (.cons (by first | exact .str _ | exact .int _) (.cons (by first | exact .str _ | exact .int _) (.cons (by first | exact .str _ | exact .int _) (.cons (by first | exact .str _ | exact .int _) (.cons (by first | exact .str _ | exact .int _) (.cons (by first | exact .str _ | exact .int _) (.cons (by first | exact .str _ | exact .int _) (.cons (by first | exact .str _ | exact .int _) .nil)))))))))) (by rfl)) (s_one (s_ret (v_tup (a_cons v_str (a_cons (v_op opA_add s_add (v_var (pv 2)) (v_frz (o_lst (a_cons (v_tindex (ys := ["add", "less", "and", "or", "xor", "left", "right", "turn"]) T.d_PAIRS T.t_PAIRS (pe_bm PySem.F.plainAttrs_tuple PySem.F.slot_tuple_index PySem.F.type_tuple_index mt_tup_index (pe_glob (v := .ref (He.ga K "PAIRS")) rfl T.c_PAIRS rfl) (a_cons (v_var (pv 1)) a_nil))) a_nil)))) a_nil))))) s_nil)
  (s_cons (s_if (v_tcmp opA_in s_in (v_var (pv 1)) (v_con (pe_glob (v := .ref (He.ga K "NUMBERED")) rfl T.c_NUMBERED rfl) (fun G ι => .tup' (T.t_NUMBERED G) (.cons (by first | exact .str _ | exact .int _) (.cons (by first | exact .str _ | exact .int _) (.cons (by first | exact .str _ | exact .int _) (.cons (by first | exact .str _ | exact .int _) (.cons (by first | exact .str _ | exact .int _) .nil))))))) (by rfl)) (s_one (s_ret (v_tup (a_cons (v_var (pv 1)) (a_cons (v_var (pv 2)) a_nil))))) s_nil)
  (s_cons (s_if (PW.pt (w_or (v_tcmp opA_notin s_notin (v_var (pv 1)) (v_tup (a_cons v_str (a_cons v_str a_nil))) (by rfl)) (w_or (v_tcmp (opA_ne hr.units) s_ne (v_b s_len (pe_callB call_len rfl T.b_len (by decide +kernel) (a_cons (v_var (pv 2)) a_nil))) (v_op opA_add s_add v_int (v_b s_int (pe_callTy call_int1 rfl T.b_int (by decide +kernel) (a_cons (v_cmp (opA_eq hr.units) s_eq (v_var (pv 1)) v_str (nomark _)) a_nil)))) (nomark _)) (w_or1 (t_not (v_test (v_b s_isi (pe_callB call_isi rfl T.b_isinstance (by decide +kernel) (a_cons (v_ix ix_seq s_ix (v_var (pv 2)) (v_neg v_int) (fun _ _ => rfl)) (a_cons (v_con (pe_bltn (v := .ty "bool") rfl T.b_bool (by decide +kernel) rfl) (fun _ _ => .typ _)) a_nil)))))))))) (s_one (s_raiseP (x := "BadDeed") rfl (takes_of rfl rfl rfl rfl) (pmk_own PySem.F.excBase_ValueError (T.y.plain "BadDeed" (by decide)).1 T.c_BadDeed (T.y.plain "BadDeed" (by decide)).2.1 (raises_own (T.y.plain "BadDeed" (by decide)).2.2.1 (T.y.plain "BadDeed" (by decide)).2.2.2) rfl))) s_nil)
  (s_cons (s_set (ps_set (i := 4) sc_numbers_of.nd rfl (Or.inl rfl) (v_if (v_test (v_mt0 s_pop (pe_bm0 PySem.F.plainAttrs_list PySem.F.slot_list_pop PySem.F.type_list_pop mt_pop (v_var (pv 2))))) (v_op opA_add s_add v_str (v_var (pv 1))) (v_var (pv 1)))))
  (s_cons (s_if (v_tcmp (opA_eq hr.units) s_eq (v_var (pv 1)) v_str (nomark _)) (s_cons (s_if (PW.pt (w_or (t_not (v_test (v_b s_isi (pe_callB call_isi rfl T.b_isinstance (by decide +kernel) (a_cons (v_ix ix_seq s_ix (v_var (pv 2)) v_int (fun _ _ => rfl)) (a_cons (v_con (pe_bltn (v := .ty "str") rfl T.b_str (by decide +kernel) rfl) (fun _ _ => .typ _)) a_nil)))))) (w_or1 (v_tcmp opA_notin s_notin (v_ix ix_seq s_ix (v_var (pv 2)) v_int (fun _ _ => rfl)) (v_con (pe_glob (v := .ref (He.ga K "WHENS")) rfl T.c_WHENS rfl) (fun G ι => .tup' (T.t_WHENS G) (.cons (by first | exact .str _ | exact .int _) (.cons (by first | exact .str _ | exact .int _) (.cons (by first | exact .str _ | exact .int _) (.cons (by first | exact .str _ | exact .int _) (.cons (by first | exact .str _ | exact .int _) (.cons (by first | exact .str _ | exact .int _) (.cons (by first | exact .str _ | exact .int _) .nil))))))))) (by rfl))))) (s_one (s_raiseP (x := "BadDeed") rfl (takes_of rfl rfl rfl rfl) (pmk_own PySem.F.excBase_ValueError (T.y.plain "BadDeed" (by decide)).1 T.c_BadDeed (T.y.plain "BadDeed" (by decide)).2.1 (raises_own (T.y.plain "BadDeed" (by decide)).2.2.1 (T.y.plain "BadDeed" (by decide)).2.2.2) rfl))) s_nil)
  (s_one (s_setI (ps_asg (v_tindex (ys := ["always", "zero", "some", "carry", "clear", "minus", "over"]) T.d_WHENS T.t_WHENS (pe_bm PySem.F.plainAttrs_tuple PySem.F.slot_tuple_index PySem.F.type_tuple_index mt_tup_index (pe_glob (v := .ref (He.ga K "WHENS")) rfl T.c_WHENS rfl) (a_cons (v_ix ix_seq s_ix (v_var (pv 2)) v_int (fun _ _ => rfl)) a_nil))) (pg_sub (v_var (pv 2)) v_int set_list))))) s_nil)
  (s_one (s_ret (v_tup (a_cons (v_var (pv 4)) (a_cons (v_var (pv 2)) a_nil)))))))))))))
theorem fn_numbers_of (T : Txt K mg) (Df : Defs K) : Fn P w K mg base (L2.CX P w) 1 "numbers_of" (spF K 1 F_numbers_of) [] := by
  obtain ⟨fd, F⟩ := Df.numbers_of
  exact .of F T.g_numbers_of (bnd0 F fun _ _ _ _ _ _ us hl => match us, hl with | [_], _ => rfl) (ok_numbers_of T Df F)
end
section
variable {P : Program} {w : World} {K : PySem.W.Frag} {mg : Str → Option Value} {base : Heap}
theorem sc_need_words : FnScope ["image", "number", "word"] ["image"] (defScope s_need_words) := ⟨rfl, rfl, rfl, by decide +kernel, rfl, by decide +kernel, by decide +kernel⟩
noncomputable def B_need_words : M Fl :=
  (forM (enumI (consM (eV 0) nilM)) (tupG 2 (consG (putS 1) (consG (putS 2) nilG))) (ifS (orM (bM (e2 eqD (eV 1) (ret (.int (200))))) (notM (bM (callM F_is_whole [] (consM (eV 2) (consM (ret (.int (0))) (consM (ret (.int (65535))) nilM)))))))
  (raiseN "BadImage" (consM (eV 1) nilM))
  (ret .nx)))
noncomputable def F_need_words : Fun := defF 3 B_need_words
set_option maxHeartbeats 16000000 in
theorem ok_need_words (T : Txt K mg) (Df : Defs K) {f : Addr} {fd : FuncData} (F : FunD K "need_words" "need_words" (defArgs s_need_words) (defBody s_need_words) (defScope s_need_words) [] [] f fd) : FnOk P w K mg base (L2.CX P w) 3 f fd ["image"] (spF K 1 F_need_words) := by
  refine okF (k := 2) F sc_need_words fun cdv A outer s H E Tb hr => ?_
  exact (s_one (s_for (ps_for (passes_of rfl) rfl (i_enum (pi_enumA rfl T.b_enumerate (a_cons (v_var (pv 0)) a_nil))) (g_tup (pg_tup rfl (gs_cons (pgs_cons (g_name (pg_name (i := 1) sc_need_words.nd rfl (Or.inl rfl))) (gs_cons (pgs_cons (g_name (pg_name (i := 2) sc_need_words.nd rfl (Or.inl rfl))) gs_nil)))))) (s_one (s_if (PW.pt (w_or (v_tcmp (opA_eq hr.units) s_eq (v_var (pv 1)) (v_con (pe_gc rfl T.i_MOST_WORDS) (fun _ _ => .int _)) (nomark _)) (w_or1 (t_not (v_test (v_call (fun _ _ => .nil) (len_app (len_cons (len_cons (len_cons len_nil))) rfl) (pe_fS (fn_is_whole T Df) hr (by decide) (fun σ => passAt (takes_of rfl rfl rfl rfl) σ) (a_cons (v_var (pv 2)) (a_cons v_int (a_cons (v_con (pe_gc rfl T.i_LAST) (fun _ _ => .int _)) a_nil)))))))))) (s_one (s_raiseQ (T.y.num "BadImage" (by decide)).1 (T.y.num "BadImage" (by decide)).2.2.1 rfl (takes_of rfl rfl rfl rfl) (pmk_num T "BadImage" (by decide) T.c_BadImage (num_I T Df) hr (by decide) (a_cons (v_var (pv 1)) a_nil)))) s_nil)))))
theorem fn_need_words (T : Txt K mg) (Df : Defs K) : Fn P w K mg base (L2.CX P w) 3 "need_words" (spF K 1 F_need_words) [] := by
  obtain ⟨fd, F⟩ := Df.need_words
  exact .of F T.g_need_words (bnd0 F fun _ _ _ _ _ _ us hl => match us, hl with | [_], _ => rfl) (ok_need_words T Df F)
end
end Lk04


set_option autoImplicit false
set_option Elab.async false
set_option linter.all false
set_option maxRecDepth 100000
set_option maxHeartbeats 4000000
namespace Lk04
open PySem PySem.Spec PyProof.Rows L2 Bm Fv
section
variable {P : Program} {w : World} {K : PySem.W.Frag} {mg : Str → Option Value} {base : Heap}
theorem sc_Book_unpacked : FnScope ["self", "image", "place", "op", "form"] ["self", "image", "place"] (defScope s_Book_unpacked) := ⟨rfl, rfl, rfl, by decide +kernel, rfl, by decide +kernel, by decide +kernel⟩
noncomputable def B_Book_unpacked : M Fl :=
  (seqM (setM (callM F_field [] (consM (e2 ixD (eV 1) (eV 2)) (consM (ret (.int (12))) (consM (ret (.int (4))) nilM)))) (putS 3))
  (seqM (ifS (bM (e2 geD (eV 3) (cN lenD (consM (ret k_NAMES) nilM))))
  (raiseM "NoDeed")
  (ret .nx))
  (seqM (setM (e2 dgetD (fldM ["Book"] "forms" (eV 0)) (e2 ixD (ret k_NAMES) (eV 3))) (putS 4))
  (retM (tupM (consM (callM F_deed_of [] (consM (e2 ixD (ret k_NAMES) (eV 3)) (consM (methM ["Form", "Near", "Far"] "read" (fun c : Str => if c = ("Form" : Str) then F_Form_read else if c = ("Near" : Str) then F_Near_read else F_Far_read) [] (eV 4) (consM (eV 1) (consM (eV 2) nilM))) nilM))) (consM (methM ["Form", "Near", "Far"] "size" (fun c : Str => if c = ("Form" : Str) then F_Form_size else if c = ("Near" : Str) then F_Form_size else F_Far_size) [] (eV 4) nilM) nilM)))))))
noncomputable def F_Book_unpacked : Fun := (finF (defF 5 B_Book_unpacked))
set_option maxHeartbeats 16000000 in
theorem ok_Book_unpacked (T : Txt K mg) (Df : Defs K) {f : Addr} {fd : FuncData} (F : FunD K "unpacked" "Book.unpacked" (defArgs s_Book_unpacked) (defBody s_Book_unpacked) (defScope s_Book_unpacked) [] [] f fd) : FnOk P w K mg base (L2.CX P w) 5 f fd ["self", "image", "place"] (spF K 3 F_Book_unpacked) := by
  refine FnOk.imp (okF (k := 4) F sc_Book_unpacked fun cdv A outer s H E Tb hr => ?_) imFin
  exact (s_cons (s_set (ps_set (i := 3) sc_Book_unpacked.nd rfl (Or.inl rfl) (v_call (fun _ _ => .nil) (len_app (len_cons (len_cons (len_cons len_nil))) rfl) (pe_fS (fn_field T Df) hr (by decide) (fun σ => passAt (takes_of rfl rfl rfl rfl) σ) (a_cons (v_ix ix_seq s_ix (v_var (pv 1)) (v_var (pv 2)) (fun _ _ => rfl)) (a_cons v_int (a_cons v_int a_nil)))))))
  (s_cons (s_if (v_tcmp op_ge s_ge (v_var (pv 3)) (v_b s_len (pe_callB call_len rfl T.b_len (by decide +kernel) (a_cons (v_con (pe_glob (v := .ref (He.ga K "NAMES")) rfl T.c_NAMES rfl) (fun G ι => .tup' (T.t_NAMES G) (.cons (by first | exact .str _ | exact .int _) (.cons (by first | exact .str _ | exact .int _) (.cons (by first | exact .str _ | exact .int _) (.cons (by first | exact .str _ | exact .int _) (.cons (by first | exact .str _ | exact .int _) (.cons (by first | exact .str _ | exact .int _) (.cons (by first | exact .str _ | exact .int _) (.cons (by first | exact .str _ | exact .int _) (.cons (by first | exact .str _ | exact .int _) (.cons (by first | exact .str _ | exact .int _) (.cons (by first | exact .str _ | exact .int _) .nil))))))))))))) a_nil))) (nomark _)) (s_one (s_raiseP (x := "NoDeed") rfl (takes_of rfl rfl rfl rfl) (pmk_own PySem.F.excBase_ValueError (T.y.plain "NoDeed" (by decide)).1 T.c_NoDeed (T.y.plain "NoDeed" (by decide)).2.1 (raises_own (T.y.plain "NoDeed" (by decide)).2.2.1 (T.y.plain "NoDeed" (by decide)).2.2.2) rfl))) s_nil)
  (s_cons (s_set (ps_set (i := 4) sc_Book_unpacked.nd rfl (Or.inl rfl) (v_dget (pe_dget (hu_of hr) (v_fld (by intro c hc; simp only [List.mem_cons, List.not_mem_nil, or_false] at hc; rcases hc with rfl <;> first | exact ⟨T.kc_Book, T.n_Book_forms⟩) (pe_fld (v_var (pv 0)) rfl)) (v_ix ix_seq s_ix (v_con (pe_glob (v := .ref (He.ga K "NAMES")) rfl T.c_NAMES rfl) (fun G ι => .tup' (T.t_NAMES G) (.cons (by first | exact .str _ | exact .int _) (.cons (by first | exact .str _ | exact .int _) (.cons (by first | exact .str _ | exact .int _) (.cons (by first | exact .str _ | exact .int _) (.cons (by first | exact .str _ | exact .int _) (.cons (by first | exact .str _ | exact .int _) (.cons (by first | exact .str _ | exact .int _) (.cons (by first | exact .str _ | exact .int _) (.cons (by first | exact .str _ | exact .int _) (.cons (by first | exact .str _ | exact .int _) (.cons (by first | exact .str _ | exact .int _) .nil))))))))))))) (v_var (pv 3)) (fun _ _ => rfl)) (fun _ _ => rfl)))))
  (s_one (s_ret (v_tup (a_cons (v_call (fun _ _ => .nil) (len_app (len_cons (len_cons len_nil)) rfl) (pe_fS (fn_deed_of T Df) hr (by decide) (fun σ => passAt (takes_of rfl rfl rfl rfl) σ) (a_cons (v_ix ix_seq s_ix (v_con (pe_glob (v := .ref (He.ga K "NAMES")) rfl T.c_NAMES rfl) (fun G ι => .tup' (T.t_NAMES G) (.cons (by first | exact .str _ | exact .int _) (.cons (by first | exact .str _ | exact .int _) (.cons (by first | exact .str _ | exact .int _) (.cons (by first | exact .str _ | exact .int _) (.cons (by first | exact .str _ | exact .int _) (.cons (by first | exact .str _ | exact .int _) (.cons (by first | exact .str _ | exact .int _) (.cons (by first | exact .str _ | exact .int _) (.cons (by first | exact .str _ | exact .int _) (.cons (by first | exact .str _ | exact .int _) (.cons (by first | exact .str _ | exact .int _) .nil))))))))))))) (v_var (pv 3)) (fun _ _ => rfl)) (a_cons (v_meth (Φ := (fun c : Str => if c = ("Form" : Str) then F_Form_read else if c = ("Near" : Str) then F_Near_read else F_Far_read)) (fun _ _ => .nil) (len_app1 (len_cons (len_cons len_nil)) rfl) (pe_meC (k := 4) (cs := ["Form", "Near", "Far"]) (spc := fun c => spF K 3 ((fun c : Str => if c = ("Form" : Str) then F_Form_read else if c = ("Near" : Str) then F_Near_read else F_Far_read) c)) (by intro c hc; simp only [List.mem_cons, List.not_mem_nil, or_false] at hc; rcases hc with rfl | rfl | rfl <;> first | exact Me.mono (me_Form_read T Df) (by decide) | exact Me.mono (me_Near_read T Df) (by decide) | exact Me.mono (me_Far_read T Df) (by decide)) hr (by decide) (fun σ => passAt (takes_of rfl rfl rfl rfl) σ) (v_var (pv 4)) (a_cons (v_var (pv 1)) (a_cons (v_var (pv 2)) a_nil)))) a_nil)))) (a_cons (v_meth0 (Φ := (fun c : Str => if c = ("Form" : Str) then F_Form_size else if c = ("Near" : Str) then F_Form_size else F_Far_size)) (fun _ _ => .nil) rfl (pe_meC0 (k := 1) (cs := ["Form", "Near", "Far"]) (spc := fun c => spF K 1 ((fun c : Str => if c = ("Form" : Str) then F_Form_size else if c = ("Near" : Str) then F_Form_size else F_Far_size) c)) (by intro c hc; simp only [List.mem_cons, List.not_mem_nil, or_false] at hc; rcases hc with rfl | rfl | rfl <;> first | exact Me.mono (me_Form_size T Df) (by decide) | exact Me.mono (me_Near_size T Df) (by decide) | exact Me.mono (me_Far_size T Df) (by decide)) hr (by decide) (fun σ => passAt (takes_of rfl rfl rfl rfl) σ) (v_var (pv 4)))) a_nil))))))))
theorem me_Book_unpacked (T : Txt K mg) (Df : Defs K) : Me P w K mg base (L2.CX P w) 5 "Book" "unpacked" (spF K 3 F_Book_unpacked) [] := by
  obtain ⟨fd, F⟩ := Df.Book_unpacked
  obtain ⟨ds, hv, hb⟩ := (bnd0 F fun _ _ _ _ _ _ us hl => match us, hl with | [_, _, _], _ => rfl : ∃ ds, Vals [] ds ∧ L2.Binds K fd ["self", "image", "place"] ds)
  exact ⟨_, fd, _, ds, T.kc_Book, T.m_Book_unpacked, ok_Book_unpacked T Df F, hb, hv⟩
end
section
variable {P : Program} {w : World} {K : PySem.W.Frag} {mg : Str → Option Value} {base : Heap}
theorem sc_unpacked : FnScope ["image", "place"] ["image", "place"] (defScope s_unpacked) := ⟨rfl, rfl, rfl, by decide +kernel, rfl, by decide +kernel, by decide +kernel⟩
noncomputable def B_unpacked : M Fl :=
  (seqM (exprM (callM F_need_words [] (consM (eV 0) nilM)))
  (seqM (ifS (notM (bM (callM F_is_whole [] (consM (eV 1) (consM (ret (.int (0))) (consM (e2 subD (cN lenD (consM (eV 0) nilM)) (ret (.int (1)))) nilM))))))
  (raiseM "BadCount")
  (ret .nx))
  (retM (methM ["Book"] "unpacked" (fun _ => F_Book_unpacked) [] (dropM (makeM "Book" F_Book_init [] nilM)) (consM (eV 0) (consM (eV 1) nilM))))))
noncomputable def F_unpacked : Fun := defF 2 B_unpacked
set_option maxHeartbeats 16000000 in
theorem ok_unpacked (T : Txt K mg) (Df : Defs K) {f : Addr} {fd : FuncData} (F : FunD K "unpacked" "unpacked" (defArgs s_unpacked) (defBody s_unpacked) (defScope s_unpacked) [.int (0)] [] f fd) : FnOk P w K mg base (L2.CX P w) 6 f fd ["image", "place"] (spF K 2 F_unpacked) := by
  refine okF (k := 5) F sc_unpacked fun cdv A outer s H E Tb hr => ?_
  exact (s_cons (s_expr (v_call (fun _ _ => .nil) (len_app (len_cons len_nil) rfl) (pe_fS (fn_need_words T Df) hr (by decide) (fun σ => passAt (takes_of rfl rfl rfl rfl) σ) (a_cons (v_var (pv 0)) a_nil))))
  (s_cons (s_if (t_not (v_test (v_call (fun _ _ => .nil) (len_app (len_cons (len_cons (len_cons len_nil))) rfl) (pe_fS (fn_is_whole T Df) hr (by decide) (fun σ => passAt (takes_of rfl rfl rfl rfl) σ) (a_cons (v_var (pv 1)) (a_cons v_int (a_cons (v_op op_sub s_sub (v_b s_len (pe_callB call_len rfl T.b_len (by decide +kernel) (a_cons (v_var (pv 0)) a_nil))) v_int) a_nil))))))) (s_one (s_raiseP (x := "BadCount") rfl (takes_of rfl rfl rfl rfl) (pmk_own PySem.F.excBase_ValueError (T.y.plain "BadCount" (by decide)).1 T.c_BadCount (T.y.plain "BadCount" (by decide)).2.1 (raises_own (T.y.plain "BadCount" (by decide)).2.2.1 (T.y.plain "BadCount" (by decide)).2.2.2) rfl))) s_nil)
  (s_one (s_ret (v_meth (Φ := (fun _ => F_Book_unpacked)) (fun _ _ => .nil) (len_app1 (len_cons (len_cons len_nil)) rfl) (pe_meC (k := 5) (cs := ["Book"]) (spc := fun c => spF K 3 ((fun _ => F_Book_unpacked) c)) (by intro c hc; simp only [List.mem_cons, List.not_mem_nil, or_false] at hc; rcases hc with rfl <;> first | exact Me.mono (me_Book_unpacked T Df) (by decide)) hr (by decide) (fun σ => passAt (takes_of rfl rfl rfl rfl) σ) (v_drop (v_make0 (fun _ _ => .nil) rfl (pe_makeS0 (mk_Book T Df) hr (by decide) (fun σ => passAt (takes_of rfl rfl rfl rfl) σ)))) (a_cons (v_var (pv 0)) (a_cons (v_var (pv 1)) a_nil))))))))
theorem fn_unpacked (T : Txt K mg) (Df : Defs K) : Fn P w K mg base (L2.CX P w) 6 "unpacked" (spF K 2 F_unpacked) [] := by
  obtain ⟨fd, F⟩ := Df.unpacked
  exact .of F T.g_unpacked (F.binds1 (ps := ["image", "place"]) 2 1 (by simp) rfl fun T kV doc pm an cdv ct us its h1 h2 => match us, h1, its, h2 with | [_, _], _, [_], _ => ⟨_, rfl, rfl⟩) (ok_unpacked T Df F)
theorem fn_unpacked_d1 (T : Txt K mg) (Df : Defs K) : Fn P w K mg base (L2.CX P w) 6 "unpacked" (spF K 2 F_unpacked) [.int (0)] := by
  obtain ⟨fd, F⟩ := Df.unpacked
  exact .of F T.g_unpacked (F.binds1 (ps := ["image", "place"]) 1 0 (by simp) rfl fun T kV doc pm an cdv ct us its h1 h2 => match us, h1, its, h2 with | [_], _, [_], _ => ⟨_, rfl, rfl⟩) (ok_unpacked T Df F)
end
section
variable {P : Program} {w : World} {K : PySem.W.Frag} {mg : Str → Option Value} {base : Heap}
theorem sc_Book_packed : FnScope ["self", "deed", "place", "name", "numbers"] ["self", "deed", "place"] (defScope s_Book_packed) := ⟨rfl, rfl, rfl, by decide +kernel, rfl, by decide +kernel, by decide +kernel⟩
noncomputable def B_Book_packed : M Fl :=
  (seqM (setM (callM F_numbers_of [] (consM (eV 1) nilM)) (tupG 2 (consG (putS 3) (consG (putS 4) nilG))))
  (retM (methM ["Form", "Near", "Far"] "words" (fun c : Str => if c = ("Form" : Str) then F_Form_words else if c = ("Near" : Str) then F_Near_words else F_Far_words) [] (e2 dgetD (fldM ["Book"] "forms" (eV 0)) (eV 3)) (consM (eV 4) (consM (eV 2) nilM)))))
noncomputable def F_Book_packed : Fun := defF 5 B_Book_packed
set_option maxHeartbeats 16000000 in
theorem ok_Book_packed (T : Txt K mg) (Df : Defs K) {f : Addr} {fd : FuncData} (F : FunD K "packed" "Book.packed" (defArgs s_Book_packed) (defBody s_Book_packed) (defScope s_Book_packed) [] [] f fd) : FnOk P w K mg base (L2.CX P w) 4 f fd ["self", "deed", "place"] (spF K 3 F_Book_packed) := by
  refine okF (k := 3) F sc_Book_packed fun cdv A outer s H E Tb hr => ?_
  exact (s_cons (s_asg (ps_asg (v_call (fun _ _ => .nil) (len_app (len_cons len_nil) rfl) (pe_fS (fn_numbers_of T Df) hr (by decide) (fun σ => passAt (takes_of rfl rfl rfl rfl) σ) (a_cons (v_var (pv 1)) a_nil))) (g_tup (pg_tup rfl (gs_cons (pgs_cons (g_name (pg_name (i := 3) sc_Book_packed.nd rfl (Or.inl rfl))) (gs_cons (pgs_cons (g_name (pg_name (i := 4) sc_Book_packed.nd rfl (Or.inl rfl))) gs_nil))))))))
  (s_one (s_ret (v_meth (Φ := (fun c : Str => if c = ("Form" : Str) then F_Form_words else if c = ("Near" : Str) then F_Near_words else F_Far_words)) (fun _ _ => .nil) (len_app1 (len_cons (len_cons len_nil)) rfl) (pe_meC (k := 3) (cs := ["Form", "Near", "Far"]) (spc := fun c => spF K 3 ((fun c : Str => if c = ("Form" : Str) then F_Form_words else if c = ("Near" : Str) then F_Near_words else F_Far_words) c)) (by intro c hc; simp only [List.mem_cons, List.not_mem_nil, or_false] at hc; rcases hc with rfl | rfl | rfl <;> first | exact Me.mono (me_Form_words T Df) (by decide) | exact Me.mono (me_Near_words T Df) (by decide) | exact Me.mono (me_Far_words T Df) (by decide)) hr (by decide) (fun σ => passAt (takes_of rfl rfl rfl rfl) σ) (v_dget (pe_dget (hu_of hr) (v_fld (by intro c hc; simp only [List.mem_cons, List.not_mem_nil, or_false] at hc; rcases hc with rfl <;> first | exact ⟨T.kc_Book, T.n_Book_forms⟩) (pe_fld (v_var (pv 0)) rfl)) (v_var (pv 3)) (fun _ _ => rfl))) (a_cons (v_var (pv 4)) (a_cons (v_var (pv 2)) a_nil)))))))
theorem me_Book_packed (T : Txt K mg) (Df : Defs K) : Me P w K mg base (L2.CX P w) 4 "Book" "packed" (spF K 3 F_Book_packed) [] := by
  obtain ⟨fd, F⟩ := Df.Book_packed
  obtain ⟨ds, hv, hb⟩ := (bnd0 F fun _ _ _ _ _ _ us hl => match us, hl with | [_, _, _], _ => rfl : ∃ ds, Vals [] ds ∧ L2.Binds K fd ["self", "deed", "place"] ds)
  exact ⟨_, fd, _, ds, T.kc_Book, T.m_Book_packed, ok_Book_packed T Df F, hb, hv⟩
end
section
variable {P : Program} {w : World} {K : PySem.W.Frag} {mg : Str → Option Value} {base : Heap}
theorem sc_Book_need : FnScope ["self", "deed", "name", "numbers"] ["self", "deed"] (defScope s_Book_need) := ⟨rfl, rfl, rfl, by decide +kernel, rfl, by decide +kernel, by decide +kernel⟩
noncomputable def B_Book_need : M Fl :=
  (seqM (setM (callM F_numbers_of [] (consM (eV 1) nilM)) (tupG 2 (consG (putS 2) (consG (putS 3) nilG))))
  (exprM (methM ["Form", "Near", "Far"] "need" (fun c : Str => if c = ("Form" : Str) then F_Form_need else if c = ("Near" : Str) then F_Near_need else F_Far_need) [] (e2 dgetD (fldM ["Book"] "forms" (eV 0)) (eV 2)) (consM (eV 3) nilM))))
noncomputable def F_Book_need : Fun := defF 4 B_Book_need
set_option maxHeartbeats 16000000 in
theorem ok_Book_need (T : Txt K mg) (Df : Defs K) {f : Addr} {fd : FuncData} (F : FunD K "need" "Book.need" (defArgs s_Book_need) (defBody s_Book_need) (defScope s_Book_need) [] [] f fd) : FnOk P w K mg base (L2.CX P w) 5 f fd ["self", "deed"] (spF K 2 F_Book_need) := by
  refine okF (k := 4) F sc_Book_need fun cdv A outer s H E Tb hr => ?_
  exact (s_cons (s_asg (ps_asg (v_call (fun _ _ => .nil) (len_app (len_cons len_nil) rfl) (pe_fS (fn_numbers_of T Df) hr (by decide) (fun σ => passAt (takes_of rfl rfl rfl rfl) σ) (a_cons (v_var (pv 1)) a_nil))) (g_tup (pg_tup rfl (gs_cons (pgs_cons (g_name (pg_name (i := 2) sc_Book_need.nd rfl (Or.inl rfl))) (gs_cons (pgs_cons (g_name (pg_name (i := 3) sc_Book_need.nd rfl (Or.inl rfl))) gs_nil))))))))
  (s_one (s_expr (v_meth (Φ := (fun c : Str => if c = ("Form" : Str) then F_Form_need else if c = ("Near" : Str) then F_Near_need else F_Far_need)) (fun _ _ => .nil) (len_app1 (len_cons len_nil) rfl) (pe_meC (k := 4) (cs := ["Form", "Near", "Far"]) (spc := fun c => spF K 2 ((fun c : Str => if c = ("Form" : Str) then F_Form_need else if c = ("Near" : Str) then F_Near_need else F_Far_need) c)) (by intro c hc; simp only [List.mem_cons, List.not_mem_nil, or_false] at hc; rcases hc with rfl | rfl | rfl <;> first | exact Me.mono (me_Form_need T Df) (by decide) | exact Me.mono (me_Near_need T Df) (by decide) | exact Me.mono (me_Far_need T Df) (by decide)) hr (by decide) (fun σ => passAt (takes_of rfl rfl rfl rfl) σ) (v_dget (pe_dget (hu_of hr) (v_fld (by intro c hc; simp only [List.mem_cons, List.not_mem_nil, or_false] at hc; rcases hc with rfl <;> first | exact ⟨T.kc_Book, T.n_Book_forms⟩) (pe_fld (v_var (pv 0)) rfl)) (v_var (pv 2)) (fun _ _ => rfl))) (a_cons (v_var (pv 3)) a_nil))))))
theorem me_Book_need (T : Txt K mg) (Df : Defs K) : Me P w K mg base (L2.CX P w) 5 "Book" "need" (spF K 2 F_Book_need) [] := by
  obtain ⟨fd, F⟩ := Df.Book_need
  obtain ⟨ds, hv, hb⟩ := (bnd0 F fun _ _ _ _ _ _ us hl => match us, hl with | [_, _], _ => rfl : ∃ ds, Vals [] ds ∧ L2.Binds K fd ["self", "deed"] ds)
  exact ⟨_, fd, _, ds, T.kc_Book, T.m_Book_need, ok_Book_need T Df F, hb, hv⟩
end
section
variable {P : Program} {w : World} {K : PySem.W.Frag} {mg : Str → Option Value} {base : Heap}
theorem sc_packed : FnScope ["deed", "place", "book"] ["deed", "place"] (defScope s_packed) := ⟨rfl, rfl, rfl, by decide +kernel, rfl, by decide +kernel, by decide +kernel⟩
noncomputable def B_packed : M Fl :=
  (seqM (setM (dropM (makeM "Book" F_Book_init [] nilM)) (putS 2))
  (seqM (exprM (methM ["Book"] "need" (fun _ => F_Book_need) [] (eV 2) (consM (eV 0) nilM)))
  (seqM (ifS (notM (bM (callM F_is_whole [] (consM (eV 1) (consM (ret (.int (0))) (consM (e2 subD (ret (.int (200))) (ret (.int (1)))) nilM))))))
  (raiseM "BadCount")
  (ret .nx))
  (retM (methM ["Book"] "packed" (fun _ => F_Book_packed) [] (eV 2) (consM (eV 0) (consM (eV 1) nilM)))))))
noncomputable def F_packed : Fun := defF 3 B_packed
set_option maxHeartbeats 16000000 in
theorem ok_packed (T : Txt K mg) (Df : Defs K) {f : Addr} {fd : FuncData} (F : FunD K "packed" "packed" (defArgs s_packed) (defBody s_packed) (defScope s_packed) [.int (0)] [] f fd) : FnOk P w K mg base (L2.CX P w) 6 f fd ["deed", "place"] (spF K 2 F_packed) := by
  refine okF (k := 5) F sc_packed fun cdv A outer s H E Tb hr => ?_
  exact (s_cons (s_set (ps_set (i := 2) sc_packed.nd rfl (Or.inl rfl) (v_drop (v_make0 (fun _ _ => .nil) rfl (pe_makeS0 (mk_Book T Df) hr (by decide) (fun σ => passAt (takes_of rfl rfl rfl rfl) σ))))))
  (s_cons (s_expr (v_meth (Φ := (fun _ => F_Book_need)) (fun _ _ => .nil) (len_app1 (len_cons len_nil) rfl) (pe_meC (k := 5) (cs := ["Book"]) (spc := fun c => spF K 2 ((fun _ => F_Book_need) c)) (by intro c hc; simp only [List.mem_cons, List.not_mem_nil, or_false] at hc; rcases hc with rfl <;> first | exact Me.mono (me_Book_need T Df) (by decide)) hr (by decide) (fun σ => passAt (takes_of rfl rfl rfl rfl) σ) (v_var (pv 2)) (a_cons (v_var (pv 0)) a_nil))))
  (s_cons (s_if (t_not (v_test (v_call (fun _ _ => .nil) (len_app (len_cons (len_cons (len_cons len_nil))) rfl) (pe_fS (fn_is_whole T Df) hr (by decide) (fun σ => passAt (takes_of rfl rfl rfl rfl) σ) (a_cons (v_var (pv 1)) (a_cons v_int (a_cons (v_op op_sub s_sub (v_con (pe_gc rfl T.i_MOST_WORDS) (fun _ _ => .int _)) v_int) a_nil))))))) (s_one (s_raiseP (x := "BadCount") rfl (takes_of rfl rfl rfl rfl) (pmk_own PySem.F.excBase_ValueError (T.y.plain "BadCount" (by decide)).1 T.c_BadCount (T.y.plain "BadCount" (by decide)).2.1 (raises_own (T.y.plain "BadCount" (by decide)).2.2.1 (T.y.plain "BadCount" (by decide)).2.2.2) rfl))) s_nil)
  (s_one (s_ret (v_meth (Φ := (fun _ => F_Book_packed)) (fun _ _ => .nil) (len_app1 (len_cons (len_cons len_nil)) rfl) (pe_meC (k := 4) (cs := ["Book"]) (spc := fun c => spF K 3 ((fun _ => F_Book_packed) c)) (by intro c hc; simp only [List.mem_cons, List.not_mem_nil, or_false] at hc; rcases hc with rfl <;> first | exact Me.mono (me_Book_packed T Df) (by decide)) hr (by decide) (fun σ => passAt (takes_of rfl rfl rfl rfl) σ) (v_var (pv 2)) (a_cons (v_var (pv 0)) (a_cons (v_var (pv 1)) a_nil)))))))))
theorem fn_packed (T : Txt K mg) (Df : Defs K) : Fn P w K mg base (L2.CX P w) 6 "packed" (spF K 2 F_packed) [] := by
  obtain ⟨fd, F⟩ := Df.packed
  exact .of F T.g_packed (F.binds1 (ps := ["deed", "place"]) 2 1 (by simp) rfl fun T kV doc pm an cdv ct us its h1 h2 => match us, h1, its, h2 with | [_, _], _, [_], _ => ⟨_, rfl, rfl⟩) (ok_packed T Df F)
theorem fn_packed_d1 (T : Txt K mg) (Df : Defs K) : Fn P w K mg base (L2.CX P w) 6 "packed" (spF K 2 F_packed) [.int (0)] := by
  obtain ⟨fd, F⟩ := Df.packed
  exact .of F T.g_packed (F.binds1 (ps := ["deed", "place"]) 1 0 (by simp) rfl fun T kV doc pm an cdv ct us its h1 h2 => match us, h1, its, h2 with | [_], _, [_], _ => ⟨_, rfl, rfl⟩) (ok_packed T Df F)
end
end Lk04


set_option autoImplicit false
set_option Elab.async false
set_option linter.all false
set_option maxRecDepth 100000
set_option maxHeartbeats 4000000
namespace Lk04
open PySem PySem.Spec PyProof.Rows L2 Bm Fv
section
variable {P : Program} {w : World} {K : PySem.W.Frag} {mg : Str → Option Value} {base : Heap}
theorem sc_law_start : FnScope ["_law_script", "_law_mixed", "_law_cell"] ["_law_script"] (defScope s_law_start) := ⟨rfl, rfl, rfl, by decide +kernel, rfl, by decide +kernel, by decide +kernel⟩
noncomputable def B_law_start : M Fl :=
  (seqM (setM (ret (.int (1))) (putS 1))
  (seqM (forM (seqI (eV 0)) (putS 2) (setM (e2 modD (e2 addD (e2 addD (e2 mulA (eV 1) (ret (.int (48271)))) (eV 2)) (ret (.int (7)))) (ret (.int (2147483647)))) (putS 1)))
  (retM (pubM (lstM (consM (eV 0) (consM (ret (.int (0))) (consM (eV 1) (consM (ret (.int (0))) nilM)))))))))
noncomputable def F_law_start : Fun := defF 3 B_law_start
set_option maxHeartbeats 16000000 in
theorem ok_law_start (T : Txt K mg) (Df : Defs K) {f : Addr} {fd : FuncData} (F : FunD K "_law_start" "_law_start" (defArgs s_law_start) (defBody s_law_start) (defScope s_law_start) [] [] f fd) : FnOk P w K mg base (L2.CX P w) 1 f fd ["_law_script"] (spF K 1 F_law_start) := by
  refine okF (k := 0) F sc_law_start fun cdv A outer s H E Tb hr => ?_
  exact (s_cons (s_set (ps_set (i := 1) sc_law_start.nd rfl (Or.inl rfl) v_int))
  (s_cons (s_for (ps_for (passes_of rfl) rfl (i_seq (pi_seq (v_var (pv 0)))) (g_name (pg_name (i := 2) sc_law_start.nd rfl (Or.inl rfl))) (s_one (s_set (ps_set (i := 1) sc_law_start.nd rfl (Or.inl rfl) (v_op op_mod s_mod (v_op opA_add s_add (v_op opA_add s_add (v_op opA_mul s_mul (v_var (pv 1)) v_int) (v_var (pv 2))) v_int) v_int))))))
  (s_one (s_ret (v_pub (o_lst (a_cons (v_var (pv 0)) (a_cons v_int (a_cons (v_var (pv 1)) (a_cons v_int a_nil))))))))))
theorem fn_law_start (T : Txt K mg) (Df : Defs K) : Fn P w K mg base (L2.CX P w) 1 "_law_start" (spF K 1 F_law_start) [] := by
  obtain ⟨fd, F⟩ := Df.law_start
  exact .of F T.g_law_start (bnd0 F fun _ _ _ _ _ _ us hl => match us, hl with | [_], _ => rfl) (ok_law_start T Df F)
end
section
variable {P : Program} {w : World} {K : PySem.W.Frag} {mg : Str → Option Value} {base : Heap}
theorem sc_law_drawn : FnScope ["_law_state", "_law_many", "_law_found", "_law_cell"] ["_law_state", "_law_many"] (defScope s_law_drawn) := ⟨rfl, rfl, rfl, by decide +kernel, rfl, by decide +kernel, by decide +kernel⟩
noncomputable def B_law_drawn : M Fl :=
  (seqM (ifS (bM (e2 gtD (e2 ixD (eV 0) (ret (.int (3)))) (ret (.int (0)))))
  (seqM (setM (e2 modD (e2 ixD (eV 0) (ret (.int (3)))) (eV 1)) (putS 2))
  (seqM (setI (e2 divD (e2 ixD (eV 0) (ret (.int (3)))) (eV 1)) (eV 0) (ret (.int (3))))
  (retM (eV 2))))
  (ret .nx))
  (seqM (setI (e2 addD (e2 ixD (eV 0) (ret (.int (1)))) (ret (.int (1)))) (eV 0) (ret (.int (1))))
  (seqM (ifS (bM (e2 leD (e2 ixD (eV 0) (ret (.int (1)))) (cN lenD (consM (e2 ixD (eV 0) (ret (.int (0)))) nilM))))
  (seqM (setM (e2 ixD (e2 ixD (eV 0) (ret (.int (0)))) (e2 subD (e2 ixD (eV 0) (ret (.int (1)))) (ret (.int (1))))) (putS 3))
  (seqM (setI (ifM (bM (e2 geD (eV 3) (e2 powD (ret (.int (10))) (ret (.int (18)))))) (e2 divD (eV 3) (eV 1)) (ret (.int (0)))) (eV 0) (ret (.int (3))))
  (retM (e2 modD (eV 3) (eV 1)))))
  (ret .nx))
  (seqM (setI (e2 modD (e2 addD (e2 mulA (e2 ixD (eV 0) (ret (.int (2)))) (ret (.int (48271)))) (ret (.int (11)))) (ret (.int (2147483647)))) (eV 0) (ret (.int (2))))
  (retM (e2 modD (e2 divD (e2 ixD (eV 0) (ret (.int (2)))) (ret (.int (7)))) (eV 1)))))))
noncomputable def F_law_drawn : Fun := defF 4 B_law_drawn
set_option maxHeartbeats 16000000 in
theorem ok_law_drawn (T : Txt K mg) (Df : Defs K) {f : Addr} {fd : FuncData} (F : FunD K "_law_drawn" "_law_drawn" (defArgs s_law_drawn) (defBody s_law_drawn) (defScope s_law_drawn) [] [] f fd) : FnOk P w K mg base (L2.CX P w) 1 f fd ["_law_state", "_law_many"] (spF K 2 F_law_drawn) := by
  refine okF (k := 0) F sc_law_drawn fun cdv A outer s H E Tb hr => ?_
  exact (s_cons (s_if (v_tcmp op_gt s_gt (v_ix ix_seq s_ix (v_var (pv 0)) v_int (fun _ _ => rfl)) v_int (nomark _)) (s_cons (s_set (ps_set (i := 2) sc_law_drawn.nd rfl (Or.inl rfl) (v_op op_mod s_mod (v_ix ix_seq s_ix (v_var (pv 0)) v_int (fun _ _ => rfl)) (v_var (pv 1)))))
  (s_cons (s_setI (ps_asg (v_op op_fdivW s_div (v_ix ix_seq s_ix (v_var (pv 0)) v_int (fun _ _ => rfl)) (v_var (pv 1))) (pg_sub (v_var (pv 0)) v_int set_list)))
  (s_one (s_ret (v_var (pv 2)))))) s_nil)
  (s_cons (s_setI (ps_asg (v_op opA_add s_add (v_ix ix_seq s_ix (v_var (pv 0)) v_int (fun _ _ => rfl)) v_int) (pg_sub (v_var (pv 0)) v_int set_list)))
  (s_cons (s_if (v_tcmp op_le s_le (v_ix ix_seq s_ix (v_var (pv 0)) v_int (fun _ _ => rfl)) (v_b s_len (pe_callB call_len rfl T.b_len (by decide +kernel) (a_cons (v_ix ix_seq s_ix (v_var (pv 0)) v_int (fun _ _ => rfl)) a_nil))) (nomark _)) (s_cons (s_set (ps_set (i := 3) sc_law_drawn.nd rfl (Or.inl rfl) (v_ix ix_seq s_ix (v_ix ix_seq s_ix (v_var (pv 0)) v_int (fun _ _ => rfl)) (v_op op_sub s_sub (v_ix ix_seq s_ix (v_var (pv 0)) v_int (fun _ _ => rfl)) v_int) (fun _ _ => rfl))))
  (s_cons (s_setI (ps_asg (v_if (v_tcmp op_ge s_ge (v_var (pv 3)) (v_op op_pow s_pow v_int v_int) (nomark _)) (v_op op_fdivW s_div (v_var (pv 3)) (v_var (pv 1))) v_int) (pg_sub (v_var (pv 0)) v_int set_list)))
  (s_one (s_ret (v_op op_mod s_mod (v_var (pv 3)) (v_var (pv 1))))))) s_nil)
  (s_cons (s_setI (ps_asg (v_op op_mod s_mod (v_op opA_add s_add (v_op opA_mul s_mul (v_ix ix_seq s_ix (v_var (pv 0)) v_int (fun _ _ => rfl)) v_int) v_int) v_int) (pg_sub (v_var (pv 0)) v_int set_list)))
  (s_one (s_ret (v_op op_mod s_mod (v_op op_fdivW s_div (v_ix ix_seq s_ix (v_var (pv 0)) v_int (fun _ _ => rfl)) v_int) (v_var (pv 1)))))))))
theorem fn_law_drawn (T : Txt K mg) (Df : Defs K) : Fn P w K mg base (L2.CX P w) 1 "_law_drawn" (spF K 2 F_law_drawn) [] := by
  obtain ⟨fd, F⟩ := Df.law_drawn
  exact .of F T.g_law_drawn (bnd0 F fun _ _ _ _ _ _ us hl => match us, hl with | [_, _], _ => rfl) (ok_law_drawn T Df F)
end
section
variable {P : Program} {w : World} {K : PySem.W.Frag} {mg : Str → Option Value} {base : Heap}
theorem sc_law_plain : FnScope [] [] (defScope s_law_plain) := ⟨rfl, rfl, rfl, by decide +kernel, rfl, by decide +kernel, by decide +kernel⟩
noncomputable def B_law_plain : M Fl :=
  (retM (frzM (lstM (consM (ret (.str "halt")) (consM (ret (.str "rest")) (consM (ret (.str "back")) (consM (ret (.str "say")) (consM (ret (.str "ask")) (consM (ret (.str "push")) (consM (ret (.str "pop")) nilM))))))))))
noncomputable def F_law_plain : Fun := defF 0 B_law_plain
set_option maxHeartbeats 16000000 in
theorem ok_law_plain (T : Txt K mg) (Df : Defs K) {f : Addr} {fd : FuncData} (F : FunD K "_law_plain" "_law_plain" (defArgs s_law_plain) (defBody s_law_plain) (defScope s_law_plain) [] [] f fd) : FnOk P w K mg base (L2.CX P w) 1 f fd [] (spF K 0 F_law_plain) := by
  refine okF (k := 0) F sc_law_plain fun cdv A outer s H E Tb hr => ?_
  exact (s_one (s_ret (v_frz (o_lst (a_cons v_str (a_cons v_str (a_cons v_str (a_cons v_str (a_cons v_str (a_cons v_str (a_cons v_str a_nil)))))))))))
theorem fn_law_plain (T : Txt K mg) (Df : Defs K) : Fn P w K mg base (L2.CX P w) 1 "_law_plain" (spF K 0 F_law_plain) [] := by
  obtain ⟨fd, F⟩ := Df.law_plain
  exact .of F T.g_law_plain (bnd0 F fun _ _ _ _ _ _ us hl => match us, hl with | [], _ => rfl) (ok_law_plain T Df F)
end
section
variable {P : Program} {w : World} {K : PySem.W.Frag} {mg : Str → Option Value} {base : Heap}
theorem sc_law_pairs : FnScope [] [] (defScope s_law_pairs) := ⟨rfl, rfl, rfl, by decide +kernel, rfl, by decide +kernel, by decide +kernel⟩
noncomputable def B_law_pairs : M Fl :=
  (retM (frzM (lstM (consM (ret (.str "add")) (consM (ret (.str "less")) (consM (ret (.str "and")) (consM (ret (.str "or")) (consM (ret (.str "xor")) (consM (ret (.str "left")) (consM (ret (.str "right")) (consM (ret (.str "turn")) nilM)))))))))))
noncomputable def F_law_pairs : Fun := defF 0 B_law_pairs
set_option maxHeartbeats 16000000 in
theorem ok_law_pairs (T : Txt K mg) (Df : Defs K) {f : Addr} {fd : FuncData} (F : FunD K "_law_pairs" "_law_pairs" (defArgs s_law_pairs) (defBody s_law_pairs) (defScope s_law_pairs) [] [] f fd) : FnOk P w K mg base (L2.CX P w) 1 f fd [] (spF K 0 F_law_pairs) := by
  refine okF (k := 0) F sc_law_pairs fun cdv A outer s H E Tb hr => ?_
  exact (s_one (s_ret (v_frz (o_lst (a_cons v_str (a_cons v_str (a_cons v_str (a_cons v_str (a_cons v_str (a_cons v_str (a_cons v_str (a_cons v_str a_nil))))))))))))
theorem fn_law_pairs (T : Txt K mg) (Df : Defs K) : Fn P w K mg base (L2.CX P w) 1 "_law_pairs" (spF K 0 F_law_pairs) [] := by
  obtain ⟨fd, F⟩ := Df.law_pairs
  exact .of F T.g_law_pairs (bnd0 F fun _ _ _ _ _ _ us hl => match us, hl with | [], _ => rfl) (ok_law_pairs T Df F)
end
section
variable {P : Program} {w : World} {K : PySem.W.Frag} {mg : Str → Option Value} {base : Heap}
theorem sc_law_times : FnScope [] [] (defScope s_law_times) := ⟨rfl, rfl, rfl, by decide +kernel, rfl, by decide +kernel, by decide +kernel⟩
noncomputable def B_law_times : M Fl :=
  (retM (frzM (lstM (consM (ret (.str "always")) (consM (ret (.str "zero")) (consM (ret (.str "some")) (consM (ret (.str "carry")) (consM (ret (.str "clear")) (consM (ret (.str "minus")) (consM (ret (.str "over")) nilM))))))))))
noncomputable def F_law_times : Fun := defF 0 B_law_times
set_option maxHeartbeats 16000000 in
theorem ok_law_times (T : Txt K mg) (Df : Defs K) {f : Addr} {fd : FuncData} (F : FunD K "_law_times" "_law_times" (defArgs s_law_times) (defBody s_law_times) (defScope s_law_times) [] [] f fd) : FnOk P w K mg base (L2.CX P w) 1 f fd [] (spF K 0 F_law_times) := by
  refine okF (k := 0) F sc_law_times fun cdv A outer s H E Tb hr => ?_
  exact (s_one (s_ret (v_frz (o_lst (a_cons v_str (a_cons v_str (a_cons v_str (a_cons v_str (a_cons v_str (a_cons v_str (a_cons v_str a_nil)))))))))))
theorem fn_law_times (T : Txt K mg) (Df : Defs K) : Fn P w K mg base (L2.CX P w) 1 "_law_times" (spF K 0 F_law_times) [] := by
  obtain ⟨fd, F⟩ := Df.law_times
  exact .of F T.g_law_times (bnd0 F fun _ _ _ _ _ _ us hl => match us, hl with | [], _ => rfl) (ok_law_times T Df F)
end
section
variable {P : Program} {w : World} {K : PySem.W.Frag} {mg : Str → Option Value} {base : Heap}
theorem sc_law_number : FnScope ["_law_state", "_law_low", "_law_high", "_law_many", "_law_way"] ["_law_state", "_law_low", "_law_high"] (defScope s_law_number) := ⟨rfl, rfl, rfl, by decide +kernel, rfl, by decide +kernel, by decide +kernel⟩
noncomputable def B_law_number : M Fl :=
  (seqM (setM (e2 addD (e2 subD (eV 2) (eV 1)) (ret (.int (1)))) (putS 3))
  (seqM (setM (callM F_law_drawn [] (consM (eV 0) (consM (ret (.int (4))) nilM))) (putS 4))
  (seqM (ifS (bM (e2 ltD (eV 4) (ret (.int (2)))))
  (retM (e2 ixD (frzM (lstM (consM (eV 1) (consM (eV 2) nilM)))) (eV 4)))
  (ret .nx))
  (retM (e2 addD (eV 1) (callM F_law_drawn [] (consM (eV 0) (consM (e2 ixD (frzM (lstM (consM (eV 3) (consM (cN minD (consM (ret (.int (4))) (consM (eV 3) nilM))) nilM)))) (e2 subD (eV 4) (ret (.int (2))))) nilM))))))))
noncomputable def F_law_number : Fun := defF 5 B_law_number
set_option maxHeartbeats 16000000 in
theorem ok_law_number (T : Txt K mg) (Df : Defs K) {f : Addr} {fd : FuncData} (F : FunD K "_law_number" "_law_number" (defArgs s_law_number) (defBody s_law_number) (defScope s_law_number) [] [] f fd) : FnOk P w K mg base (L2.CX P w) 2 f fd ["_law_state", "_law_low", "_law_high"] (spF K 3 F_law_number) := by
  refine okF (k := 1) F sc_law_number fun cdv A outer s H E Tb hr => ?_
  exact (s_cons (s_set (ps_set (i := 3) sc_law_number.nd rfl (Or.inl rfl) (v_op opA_add s_add (v_op op_sub s_sub (v_var (pv 2)) (v_var (pv 1))) v_int)))
  (s_cons (s_set (ps_set (i := 4) sc_law_number.nd rfl (Or.inl rfl) (v_call (fun _ _ => .nil) (len_app (len_cons (len_cons len_nil)) rfl) (pe_fS (fn_law_drawn T Df) hr (by decide) (fun σ => passAt (takes_of rfl rfl rfl rfl) σ) (a_cons (v_var (pv 0)) (a_cons v_int a_nil))))))
  (s_cons (s_if (v_tcmp op_lt s_lt (v_var (pv 4)) v_int (nomark _)) (s_one (s_ret (v_ix ix_seq s_ix (v_frz (o_lst (a_cons (v_var (pv 1)) (a_cons (v_var (pv 2)) a_nil)))) (v_var (pv 4)) (fun _ _ => rfl)))) s_nil)
  (s_one (s_ret (v_op opA_add s_add (v_var (pv 1)) (v_call (fun _ _ => .nil) (len_app (len_cons (len_cons len_nil)) rfl) (pe_fS (fn_law_drawn T Df) hr (by decide) (fun σ => passAt (takes_of rfl rfl rfl rfl) σ) (a_cons (v_var (pv 0)) (a_cons (v_ix ix_seq s_ix (v_frz (o_lst (a_cons (v_var (pv 3)) (a_cons (v_b s_min (pe_callB (call_min2 rfl) rfl T.b_min (by decide +kernel) (a_cons v_int (a_cons (v_var (pv 3)) a_nil)))) a_nil)))) (v_op op_sub s_sub (v_var (pv 4)) v_int) (fun _ _ => rfl)) a_nil))))))))))
theorem fn_law_number (T : Txt K mg) (Df : Defs K) : Fn P w K mg base (L2.CX P w) 2 "_law_number" (spF K 3 F_law_number) [] := by
  obtain ⟨fd, F⟩ := Df.law_number
  exact .of F T.g_law_number (bnd0 F fun _ _ _ _ _ _ us hl => match us, hl with | [_, _, _], _ => rfl) (ok_law_number T Df F)
end
section
variable {P : Program} {w : World} {K : PySem.W.Frag} {mg : Str → Option Value} {base : Heap}
theorem sc_law_deed : FnScope ["_law_state", "_law_place", "_law_most", "_law_way", "_law_d", "_law_a", "_law_b", "_law_word", "_law_low", "_law_high", "_law_far", "_law_there"] ["_law_state", "_law_place", "_law_most"] (defScope s_law_deed) := ⟨rfl, rfl, rfl, by decide +kernel, rfl, by decide +kernel, by decide +kernel⟩
noncomputable def B_law_deed : M Fl :=
  (seqM (setM (callM F_law_drawn [] (consM (eV 0) (consM (ret (.int (10))) nilM))) (putS 3))
  (seqM (parM3 4 5 6 (consM (callM F_law_drawn [] (consM (eV 0) (consM (ret (.int (8))) nilM))) (consM (callM F_law_drawn [] (consM (eV 0) (consM (ret (.int (8))) nilM))) (consM (callM F_law_drawn [] (consM (eV 0) (consM (ret (.int (8))) nilM))) nilM))))
  (seqM (ifS (bM (e2 ltD (eV 3) (ret (.int (2)))))
  (seqM (setM (e2 ixD (callM F_law_plain [] nilM) (callM F_law_drawn [] (consM (eV 0) (consM (ret (.int (7))) nilM)))) (putS 7))
  (retM (ifM (bM (e2 inD (eV 7) (tupM (consM (ret (.str "halt")) (consM (ret (.str "rest")) (consM (ret (.str "back")) nilM)))))) (tupM (consM (eV 7) nilM)) (tupM (consM (eV 7) (consM (eV 5) nilM))))))
  (ret .nx))
  (seqM (ifS (bM (e2 ltD (eV 3) (ret (.int (4)))))
  (retM (tupM (consM (e2 ixD (callM F_law_pairs [] nilM) (callM F_law_drawn [] (consM (eV 0) (consM (ret (.int (8))) nilM)))) (consM (eV 4) (consM (eV 5) (consM (eV 6) nilM))))))
  (ret .nx))
  (seqM (ifS (bM (e2 ltD (eV 3) (ret (.int (8)))))
  (seqM (setM (e2 ixD (frzM (lstM (consM (tupM (consM (e2 subD (ret (.int (0))) (ret (.int (32)))) (consM (ret (.int (31))) nilM))) (consM (tupM (consM (ret (.int (0))) (consM (ret (.int (511))) nilM))) (consM (tupM (consM (ret (.int (0))) (consM (ret (.int (127))) nilM))) (consM (tupM (consM (ret (.int (0))) (consM (ret (.int (63))) nilM))) nilM)))))) (e2 subD (eV 3) (ret (.int (4))))) (tupG 2 (consG (putS 8) (consG (putS 9) nilG))))
  (seqM (setM (e2 ixD (frzM (lstM (consM (ret (.str "plus")) (consM (ret (.str "set")) (consM (ret (.str "high")) (consM (e2 ixD (frzM (lstM (consM (ret (.str "load")) (consM (ret (.str "store")) nilM)))) (callM F_law_drawn [] (consM (eV 0) (consM (ret (.int (2))) nilM)))) nilM)))))) (e2 subD (eV 3) (ret (.int (4))))) (putS 7))
  (retM (e2 addD (e2 addD (tupM (consM (eV 7) (consM (eV 4) nilM))) (ifM (bM (e2 inD (eV 3) (tupM (consM (ret (.int (4))) (consM (ret (.int (7))) nilM))))) (tupM (consM (eV 5) nilM)) (tupM nilM))) (tupM (consM (callM F_law_number [] (consM (eV 0) (consM (eV 8) (consM (eV 9) nilM)))) nilM))))))
  (ret .nx))
  (seqM (setM (e2 eqD (callM F_law_drawn [] (consM (eV 0) (consM (ret (.int (3))) nilM))) (ret (.int (0)))) (putS 10))
  (seqM (setM (callM F_law_drawn [] (consM (eV 0) (consM (e2 addD (eV 2) (ret (.int (1)))) nilM))) (putS 11))
  (seqM (ifS (notM (bM (eV 10)))
  (seqM (setM (cN maxD (consM (ret (.int (0))) (consM (cN minD (consM (eV 2) (consM (cN maxD (consM (e2 subD (eV 1) (ret (.int (15)))) (consM (cN minD (consM (e2 addD (eV 1) (ret (.int (16)))) (consM (eV 11) nilM))) nilM))) nilM))) nilM))) (putS 11))
  (setM (notV (chM leD leD (e2 subD (eV 1) (ret (.int (15)))) (eV 11) (e2 addD (eV 1) (ret (.int (16)))))) (putS 10)))
  (ret .nx))
  (retM (ifM (bM (e2 eqD (eV 3) (ret (.int (8))))) (tupM (consM (ret (.str "jump")) (consM (e2 ixD (callM F_law_times [] nilM) (callM F_law_drawn [] (consM (eV 0) (consM (ret (.int (7))) nilM)))) (consM (eV 11) (consM (eV 10) nilM))))) (tupM (consM (ret (.str "call")) (consM (eV 11) (consM (eV 10) nilM))))))))))))))
noncomputable def F_law_deed : Fun := defF 12 B_law_deed
set_option maxHeartbeats 16000000 in
theorem ok_law_deed (T : Txt K mg) (Df : Defs K) {f : Addr} {fd : FuncData} (F : FunD K "_law_deed" "_law_deed" (defArgs s_law_deed) (defBody s_law_deed) (defScope s_law_deed) [] [] f fd) : FnOk P w K mg base (L2.CX P w) 3 f fd ["_law_state", "_law_place", "_law_most"] (spF K 3 F_law_deed) := by
  refine okF (k := 2) F sc_law_deed fun cdv A outer s H E Tb hr => ?_
  exact (s_cons (s_set (ps_set (i := 3) sc_law_deed.nd rfl (Or.inl rfl) (v_call (fun _ _ => .nil) (len_app (len_cons (len_cons len_nil)) rfl) (pe_fS (fn_law_drawn T Df) hr (by decide) (fun σ => passAt (takes_of rfl rfl rfl rfl) σ) (a_cons (v_var (pv 0)) (a_cons v_int a_nil))))))
  (s_cons (s_par3 (ps_par3 (i := 4) (j := 5) (l := 6) (by rfl) sc_law_deed.nd rfl rfl rfl (by decide) (by decide) (by decide) rfl rfl rfl (a_cons (v_call (fun _ _ => .nil) (len_app (len_cons (len_cons len_nil)) rfl) (pe_fS (fn_law_drawn T Df) hr (by decide) (fun σ => passAt (takes_of rfl rfl rfl rfl) σ) (a_cons (v_var (pv 0)) (a_cons v_int a_nil)))) (a_cons (v_call (fun _ _ => .nil) (len_app (len_cons (len_cons len_nil)) rfl) (pe_fS (fn_law_drawn T Df) hr (by decide) (fun σ => passAt (takes_of rfl rfl rfl rfl) σ) (a_cons (v_var (pv 0)) (a_cons v_int a_nil)))) (a_cons (v_call (fun _ _ => .nil) (len_app (len_cons (len_cons len_nil)) rfl) (pe_fS (fn_law_drawn T Df) hr (by decide) (fun σ => passAt (takes_of rfl rfl rfl rfl) σ) (a_cons (v_var (pv 0)) (a_cons v_int a_nil)))) a_nil))) (by rfl)))
  (s_cons (s_if (v_tcmp op_lt s_lt (v_var (pv 3)) v_int (nomark _)) (s_cons (s_set (ps_set (i := 7) sc_law_deed.nd rfl (Or.inl rfl) (v_ix ix_seq s_ix (v_call0 (fun _ _ => .nil) rfl (pe_fS0 (fn_law_plain T Df) hr (by decide) (fun σ => passAt (takes_of rfl rfl rfl rfl) σ))) (v_call (fun _ _ => .nil) (len_app (len_cons (len_cons len_nil)) rfl) (pe_fS (fn_law_drawn T Df) hr (by decide) (fun σ => passAt (takes_of rfl rfl rfl rfl) σ) (a_cons (v_var (pv 0)) (a_cons v_int a_nil)))) (fun _ _ => rfl))))
  (s_one (s_ret (v_if (v_tcmp opA_in s_in (v_var (pv 7)) (v_tup (a_cons v_str (a_cons v_str (a_cons v_str a_nil)))) (by rfl)) (v_tup (a_cons (v_var (pv 7)) a_nil)) (v_tup (a_cons (v_var (pv 7)) (a_cons (v_var (pv 5)) a_nil))))))) s_nil)
  (s_cons (s_if (v_tcmp op_lt s_lt (v_var (pv 3)) v_int (nomark _)) (s_one (s_ret (v_tup (a_cons (v_ix ix_seq s_ix (v_call0 (fun _ _ => .nil) rfl (pe_fS0 (fn_law_pairs T Df) hr (by decide) (fun σ => passAt (takes_of rfl rfl rfl rfl) σ))) (v_call (fun _ _ => .nil) (len_app (len_cons (len_cons len_nil)) rfl) (pe_fS (fn_law_drawn T Df) hr (by decide) (fun σ => passAt (takes_of rfl rfl rfl rfl) σ) (a_cons (v_var (pv 0)) (a_cons v_int a_nil)))) (fun _ _ => rfl)) (a_cons (v_var (pv 4)) (a_cons (v_var (pv 5)) (a_cons (v_var (pv 6)) a_nil))))))) s_nil)
  (s_cons (s_if (v_tcmp op_lt s_lt (v_var (pv 3)) v_int (nomark _)) (s_cons (s_asg (ps_asg (v_ix ix_seq s_ix (v_frz (o_lst (a_cons (v_tup (a_cons (v_op op_sub s_sub v_int v_int) (a_cons v_int a_nil))) (a_cons (v_tup (a_cons v_int (a_cons v_int a_nil))) (a_cons (v_tup (a_cons v_int (a_cons v_int a_nil))) (a_cons (v_tup (a_cons v_int (a_cons v_int a_nil))) a_nil)))))) (v_op op_sub s_sub (v_var (pv 3)) v_int) (fun _ _ => rfl)) (g_tup (pg_tup rfl (gs_cons (pgs_cons (g_name (pg_name (i := 8) sc_law_deed.nd rfl (Or.inl rfl))) (gs_cons (pgs_cons (g_name (pg_name (i := 9) sc_law_deed.nd rfl (Or.inl rfl))) gs_nil))))))))
  (s_cons (s_set (ps_set (i := 7) sc_law_deed.nd rfl (Or.inl rfl) (v_ix ix_seq s_ix (v_frz (o_lst (a_cons v_str (a_cons v_str (a_cons v_str (a_cons (v_ix ix_seq s_ix (v_frz (o_lst (a_cons v_str (a_cons v_str a_nil)))) (v_call (fun _ _ => .nil) (len_app (len_cons (len_cons len_nil)) rfl) (pe_fS (fn_law_drawn T Df) hr (by decide) (fun σ => passAt (takes_of rfl rfl rfl rfl) σ) (a_cons (v_var (pv 0)) (a_cons v_int a_nil)))) (fun _ _ => rfl)) a_nil)))))) (v_op op_sub s_sub (v_var (pv 3)) v_int) (fun _ _ => rfl))))
  (s_one (s_ret (v_op opA_add s_add (v_op opA_add s_add (v_tup (a_cons (v_var (pv 7)) (a_cons (v_var (pv 4)) a_nil))) (v_if (v_tcmp opA_in s_in (v_var (pv 3)) (v_tup (a_cons v_int (a_cons v_int a_nil))) (by rfl)) (v_tup (a_cons (v_var (pv 5)) a_nil)) (v_tup a_nil))) (v_tup (a_cons (v_call (fun _ _ => .nil) (len_app (len_cons (len_cons (len_cons len_nil))) rfl) (pe_fS (fn_law_number T Df) hr (by decide) (fun σ => passAt (takes_of rfl rfl rfl rfl) σ) (a_cons (v_var (pv 0)) (a_cons (v_var (pv 8)) (a_cons (v_var (pv 9)) a_nil))))) a_nil))))))) s_nil)
  (s_cons (s_set (ps_set (i := 10) sc_law_deed.nd rfl (Or.inl rfl) (v_cmp (opA_eq hr.units) s_eq (v_call (fun _ _ => .nil) (len_app (len_cons (len_cons len_nil)) rfl) (pe_fS (fn_law_drawn T Df) hr (by decide) (fun σ => passAt (takes_of rfl rfl rfl rfl) σ) (a_cons (v_var (pv 0)) (a_cons v_int a_nil)))) v_int (nomark _))))
  (s_cons (s_set (ps_set (i := 11) sc_law_deed.nd rfl (Or.inl rfl) (v_call (fun _ _ => .nil) (len_app (len_cons (len_cons len_nil)) rfl) (pe_fS (fn_law_drawn T Df) hr (by decide) (fun σ => passAt (takes_of rfl rfl rfl rfl) σ) (a_cons (v_var (pv 0)) (a_cons (v_op opA_add s_add (v_var (pv 2)) v_int) a_nil))))))
  (s_cons (s_if (t_not (v_test (v_var (pv 10)))) (s_cons (s_set (ps_set (i := 11) sc_law_deed.nd rfl (Or.inl rfl) (v_b s_max (pe_callB (call_max2 rfl) rfl T.b_max (by decide +kernel) (a_cons v_int (a_cons (v_b s_min (pe_callB (call_min2 rfl) rfl T.b_min (by decide +kernel) (a_cons (v_var (pv 2)) (a_cons (v_b s_max (pe_callB (call_max2 rfl) rfl T.b_max (by decide +kernel) (a_cons (v_op op_sub s_sub (v_var (pv 1)) v_int) (a_cons (v_b s_min (pe_callB (call_min2 rfl) rfl T.b_min (by decide +kernel) (a_cons (v_op opA_add s_add (v_var (pv 1)) v_int) (a_cons (v_var (pv 11)) a_nil)))) a_nil)))) a_nil)))) a_nil))))))
  (s_one (s_set (ps_set (i := 10) sc_law_deed.nd rfl (Or.inl rfl) (v_not (v_chain op_le op_le s_le s_le (v_op op_sub s_sub (v_var (pv 1)) v_int) (v_var (pv 11)) (v_op opA_add s_add (v_var (pv 1)) v_int))))))) s_nil)
  (s_one (s_ret (v_if (v_tcmp (opA_eq hr.units) s_eq (v_var (pv 3)) v_int (nomark _)) (v_tup (a_cons v_str (a_cons (v_ix ix_seq s_ix (v_call0 (fun _ _ => .nil) rfl (pe_fS0 (fn_law_times T Df) hr (by decide) (fun σ => passAt (takes_of rfl rfl rfl rfl) σ))) (v_call (fun _ _ => .nil) (len_app (len_cons (len_cons len_nil)) rfl) (pe_fS (fn_law_drawn T Df) hr (by decide) (fun σ => passAt (takes_of rfl rfl rfl rfl) σ) (a_cons (v_var (pv 0)) (a_cons v_int a_nil)))) (fun _ _ => rfl)) (a_cons (v_var (pv 11)) (a_cons (v_var (pv 10)) a_nil))))) (v_tup (a_cons v_str (a_cons (v_var (pv 11)) (a_cons (v_var (pv 10)) a_nil)))))))))))))))
theorem fn_law_deed (T : Txt K mg) (Df : Defs K) : Fn P w K mg base (L2.CX P w) 3 "_law_deed" (spF K 3 F_law_deed) [] := by
  obtain ⟨fd, F⟩ := Df.law_deed
  exact .of F T.g_law_deed (bnd0 F fun _ _ _ _ _ _ us hl => match us, hl with | [_, _, _], _ => rfl) (ok_law_deed T Df F)
end
noncomputable def B_law_deed_at : M Fl :=
  (seqM (setM (cN divmodD (consM (e2 ixD (eV 0) (eV 1)) (consM (ret (.int (4096))) nilM))) (tupG 2 (consG (putS 2) (consG (putS 3) nilG))))
  (seqM (setM (tupM (consM (e2 divD (eV 3) (ret (.int (512)))) (consM (e2 modD (e2 divD (eV 3) (ret (.int (64)))) (ret (.int (8)))) (consM (e2 modD (e2 divD (eV 3) (ret (.int (8)))) (ret (.int (8)))) (consM (e2 modD (eV 3) (ret (.int (8)))) nilM))))) (tupG 4 (consG (putS 4) (consG (putS 5) (consG (putS 6) (consG (putS 7) nilG))))))
  (seqM (ifS (bM (e2 eqD (eV 2) (ret (.int (0)))))
  (seqM (setM (e2 ixD (e2 addD (callM F_law_plain [] nilM) (frzM (lstM (consM (ret (.str "none")) nilM)))) (eV 4)) (putS 8))
  (seqM (ifS (orM (bM (e2 gtD (e2 modD (eV 3) (ret (.int (64)))) (ret (.int (0))))) (orM (bM (e2 eqD (eV 8) (ret (.str "none")))) (andM (bM (e2 ltD (eV 4) (ret (.int (3))))) (bM (e2 gtD (eV 5) (ret (.int (0))))))))
  (retM (ret .non))
  (ret .nx))
  (retM (tupM (consM (e2 addD (tupM (consM (eV 8) nilM)) (ifM (bM (e2 ltD (eV 4) (ret (.int (3))))) (tupM nilM) (tupM (consM (eV 5) nilM)))) (consM (ret (.int (1))) nilM))))))
  (ret .nx))
  (seqM (ifS (bM (e2 eqD (eV 2) (ret (.int (1)))))
  (retM (tupM (consM (tupM (consM (e2 ixD (callM F_law_pairs [] nilM) (eV 7)) (consM (eV 4) (consM (eV 5) (consM (eV 6) nilM))))) (consM (ret (.int (1))) nilM))))
  (ret .nx))
  (seqM (ifS (bM (e2 inD (eV 2) (tupM (consM (ret (.int (2))) (consM (ret (.int (5))) (consM (ret (.int (6))) nilM))))))
  (seqM (setM (e2 subD (e2 modD (eV 3) (ret (.int (64)))) (e2 mulA (ret (.int (64))) (cN intD (consM (andV (e2 eqD (eV 2) (ret (.int (2)))) (e2 gtD (e2 modD (eV 3) (ret (.int (64)))) (ret (.int (31))))) nilM)))) (putS 9))
  (retM (tupM (consM (tupM (consM (e2 ixD (frzM (lstM (consM (ret (.str "plus")) (consM (ret (.str "load")) (consM (ret (.str "store")) nilM))))) (mnM "list" indexD (frzM (lstM (consM (ret (.int (2))) (consM (ret (.int (5))) (consM (ret (.int (6))) nilM))))) (consM (eV 2) nilM))) (consM (eV 4) (consM (eV 5) (consM (eV 9) nilM))))) (consM (ret (.int (1))) nilM)))))
  (ret .nx))
  (seqM (ifS (orM (bM (e2 eqD (eV 2) (ret (.int (3))))) (andM (bM (e2 eqD (eV 2) (ret (.int (4))))) (bM (e2 ltD (e2 modD (eV 3) (ret (.int (512)))) (ret (.int (128)))))))
  (retM (tupM (consM (tupM (consM (e2 ixD (frzM (lstM (consM (ret (.str "set")) (consM (ret (.str "high")) nilM)))) (e2 subD (eV 2) (ret (.int (3))))) (consM (eV 4) (consM (e2 modD (eV 3) (ret (.int (512)))) nilM)))) (consM (ret (.int (1))) nilM))))
  (ret .nx))
  (seqM (setM (e2 subD (e2 addD (e2 addD (eV 1) (ret (.int (1)))) (e2 modD (eV 3) (ret (.int (32))))) (e2 mulA (ret (.int (32))) (cN intD (consM (e2 gtD (e2 modD (eV 3) (ret (.int (32)))) (ret (.int (15)))) nilM)))) (putS 10))
  (seqM (ifS (andM (bM (e2 eqD (eV 2) (ret (.int (7))))) (andM (bM (e2 ltD (eV 4) (ret (.int (7))))) (andM (bM (e2 ltD (e2 modD (eV 3) (ret (.int (512)))) (ret (.int (32))))) (bM (e2 geD (eV 10) (ret (.int (0))))))))
  (retM (tupM (consM (tupM (consM (ret (.str "jump")) (consM (e2 ixD (callM F_law_times [] nilM) (eV 4)) (consM (eV 10) (consM (ret (.bl false)) nilM))))) (consM (ret (.int (1))) nilM))))
  (ret .nx))
  (seqM (ifS (andM (bM (e2 eqD (eV 2) (ret (.int (9))))) (andM (bM (e2 ltD (eV 3) (ret (.int (32))))) (bM (e2 geD (eV 10) (ret (.int (0)))))))
  (retM (tupM (consM (tupM (consM (ret (.str "call")) (consM (eV 10) (consM (ret (.bl false)) nilM)))) (consM (ret (.int (1))) nilM))))
  (ret .nx))
  (seqM (ifS (bM (e2 eqD (e2 addD (eV 1) (ret (.int (1)))) (cN lenD (consM (eV 0) nilM))))
  (retM (ret .non))
  (ret .nx))
  (seqM (ifS (andM (bM (e2 eqD (eV 2) (ret (.int (8))))) (andM (bM (e2 ltD (eV 4) (ret (.int (7))))) (bM (e2 eqD (e2 modD (eV 3) (ret (.int (512)))) (ret (.int (0)))))))
  (retM (tupM (consM (tupM (consM (ret (.str "jump")) (consM (e2 ixD (callM F_law_times [] nilM) (eV 4)) (consM (e2 ixD (eV 0) (e2 addD (eV 1) (ret (.int (1))))) (consM (ret (.bl true)) nilM))))) (consM (ret (.int (2))) nilM))))
  (ret .nx))
  (retM (ifM (andM (bM (e2 eqD (eV 2) (ret (.int (10))))) (bM (e2 eqD (eV 3) (ret (.int (0)))))) (tupM (consM (tupM (consM (ret (.str "call")) (consM (e2 ixD (eV 0) (e2 addD (eV 1) (ret (.int (1))))) (consM (ret (.bl true)) nilM)))) (consM (ret (.int (2))) nilM))) (ret .non))))))))))))))
noncomputable def F_law_deed_at : Fun := defF 11 B_law_deed_at
end Lk04


set_option Elab.async false
set_option linter.all false
set_option maxRecDepth 100000
set_option maxHeartbeats 4000000
set_option autoImplicit false
/-! More rules by which the plain functions are reckoned. -/
namespace Fv
open PySem PySem.Spec PyProof.Rows L2 Bm
section
variable {α : Type} {xs : List α}
theorem cut_to {n : Int} (h : 0 ≤ n) : cut xs none (some n) = xs.take n.toNat := by
  simp only [cut, HT.sIx, if_neg (Int.not_lt.mpr h), Nat.sub_zero, List.drop_zero]
  rcases Nat.le_total n.toNat xs.length with c | c
  · rw [Nat.min_eq_left c]
  · rw [Nat.min_eq_right c, List.take_length, List.take_of_length_le c]
theorem cut_from {n : Int} (h : 0 ≤ n) : cut xs (some n) none = xs.drop n.toNat := by
  simp only [cut, HT.sIx, if_neg (Int.not_lt.mpr h)]
  rcases Nat.le_total n.toNat xs.length with c | c
  · rw [Nat.min_eq_left c, List.take_of_length_le (by simp)]
  · rw [Nat.min_eq_right c, List.drop_of_length_le c, List.drop_length, List.take_nil]
theorem cut_mid {i j : Int} (h : 0 ≤ i) (hj : 0 ≤ j) : cut xs (some i) (some j) = (xs.drop i.toNat).take (j.toNat - i.toNat) := by
  simp only [cut, HT.sIx, if_neg (Int.not_lt.mpr h), if_neg (Int.not_lt.mpr hj)]
  rcases Nat.le_total i.toNat xs.length with c | c
  · rw [Nat.min_eq_left c]
    rcases Nat.le_total j.toNat xs.length with d | d
    · rw [Nat.min_eq_left d]
    · rw [Nat.min_eq_right d, List.take_of_length_le (by simp), List.take_of_length_le (by simp; omega)]
  · rw [Nat.min_eq_right c, List.drop_of_length_le c, List.drop_length, List.take_nil, List.take_nil]
end
section
variable {h : List Ob}
@[simp] theorem x_kindM (f : M D) (e : En) : kindM f e = (match f e with
  | .ok d e' => .ok d e'
  | .ex x fs e' => match kindD x fs with
    | some d => .ok d e'
    | none => .stuck
  | .stuck => .stuck) := rfl
@[simp] theorem x_stepM (fx : M D) (fk : M (Option Int)) (e : En) : stepM fx fk e = bnd fx (fun x => bnd fk fun k => lft fun h => match lsqOf h x with
  | some xs => if k ≠ some 0 then some (.lst (stepX xs k)) else none
  | none => none) e := rfl
@[simp] theorem x_lrg1 (f : M D) (e : En) : lrg1 f e = bnd f (fun x => lft fun _ => match x with
  | .int j => if 0 ≤ j ∧ j ≤ 16777216 then some (.lst (rangeL 0 j.toNat)) else none
  | _ => none) e := rfl
@[simp] theorem x_enumI (f : M (List D)) (e : En) : enumI f e = bnd f (fun ds => lft fun _ => match ds with
  | [d] => (stayOf d).map enumL
  | _ => none) e := rfl
@[simp] theorem x_rng2 (f : M (List D)) (e : En) : rng2 f e = bnd f (fun ds => lft fun _ => match ds with
  | [.int i, .int j] => if -(2 ^ 62) ≤ i ∧ i < 2 ^ 62 ∧ -(2 ^ 62) ≤ j ∧ j < 2 ^ 62 then some (rangeL i (j - i).toNat) else none
  | _ => none) e := rfl
@[simp] theorem x_stay1 (xs : List D) : stayOf (.lst xs) = some xs := rfl
@[simp] theorem x_stay2 (xs : List D) : stayOf (.tup xs) = some xs := rfl
@[simp] theorem x_stay3 (xs : List D) : stayOf (.scr xs) = some xs := rfl
@[simp] theorem x_tuple (d : D) : tupleD h [d] = (seqOf h d).map .tup := rfl
@[simp] theorem x_catO (x y : D) : catO h x y = (match lstOf h x, lstOf h y with
  | some xs, some ys => if xs.length + ys.length ≤ sizeLine then some (.lst (xs ++ ys)) else none
  | _, _ => none) := rfl
end
/-! ### loops -/
theorem wh_step {c : M Bool} {body : M Fl} {n : Nat} {e e1 e2 : En} (hc : c e = .ok true e1) (hb : body e1 = .ok .nx e2) : whM c body (n + 1) e = whM c body n e2 := by
  conv => lhs; unfold whM
  rw [hc]
  dsimp only
  rw [hb]
theorem wh_end {c : M Bool} {body : M Fl} {n : Nat} {e e1 : En} (hc : c e = .ok false e1) : whM c body (n + 1) e = .ok .nx e1 := by
  unfold whM
  rw [hc]
theorem wh_ret {c : M Bool} {body : M Fl} {n : Nat} {e e1 e2 : En} {d : D} (hc : c e = .ok true e1) (hb : body e1 = .ok (.rt d) e2) : whM c body (n + 1) e = .ok (.rt d) e2 := by
  conv => lhs; unfold whM
  rw [hc]
  dsimp only
  rw [hb]
theorem for_step {b : D → En → Option En} {body : M Fl} {d : D} {ds : List D} {e e1 e2 : En} (hb : b d e = some e1) (h : body e1 = .ok .nx e2) : forL b body (d :: ds) e = forL b body ds e2 := by
  conv => lhs; unfold forL
  rw [hb]
  dsimp only
  rw [h]
/-! ### data -/
theorem toPs_ints {go : Nat → Option PyData} : ∀ ws : List Int, Fv.toPs go (ws.map D.int) = some (ws.map PyData.int)
  | [] => by simp [Fv.toPs]
  | w :: ws => by simp [Fv.toPs, toPW, toPs_ints ws]
theorem same_refl {n : Nat} {h : List Ob} {x y : D} {p : PyData} (ex : dataOf h x = some p) (ey : dataOf h y = some p) (d : depD n p = true) : sameF n [x, y] h = .ok (.bl true) h := by
  unfold sameF
  dsimp only
  rw [ex]
  dsimp only
  rw [if_pos ⟨ey, d⟩]
theorem eqvAll_ints : ∀ xs ys : List Int, PyData.eqvAll (xs.map PyData.int) (ys.map PyData.int) = decide (xs = ys)
  | [], [] => by simp [PyData.eqvAll]
  | [], y :: ys => by simp [PyData.eqvAll]
  | x :: xs, [] => by simp [PyData.eqvAll]
  | x :: xs, y :: ys => by
    by_cases c : x = y <;> simp [PyData.eqvAll, PyData.eqv, eqvAll_ints xs ys, c]
theorem layAll_ints : ∀ xs : List Int, PyData.canLayAll0 (xs.map PyData.int) = true ∧ PyData.depthAll (xs.map PyData.int) = 0
  | [] => by simp [PyData.canLayAll0, PyData.depthAll]
  | x :: xs => by
    have := layAll_ints xs
    simp [PyData.canLayAll0, PyData.canLay0, this, PyData.depthAll, PyData.depth]
theorem eq_lints {h : List Ob} (xs ys : List Int) : eqD h (.lst (xs.map .int)) (.lst (ys.map .int)) = some (.bl (decide (xs = ys))) := by
  have a := layAll_ints xs
  have b := layAll_ints ys
  simp [eqD, eqF, dataOf, toPW, toPs_ints, SeqAt.shaped, PyData.canLay0, a, b, PyData.depth, PyData.eqv, eqvAll_ints]
theorem ne_lints {h : List Ob} (xs ys : List Int) : neD h (.lst (xs.map .int)) (.lst (ys.map .int)) = some (.bl (!decide (xs = ys))) := by
  have a := layAll_ints xs
  have b := layAll_ints ys
  simp [neD, eqF, dataOf, toPW, toPs_ints, SeqAt.shaped, PyData.canLay0, a, b, PyData.depth, PyData.eqv, eqvAll_ints]
end Fv


set_option Elab.async false
set_option linter.all false
set_option maxRecDepth 100000
set_option maxHeartbeats 4000000
set_option autoImplicit false
/-! dict(pairs), dict(d), d.update(d2), max and min of lists. -/
namespace Fv
open PySem PySem.Spec PyProof.Rows L2 Bm
section
variable {K : PySem.W.Frag} {G H : Hp} {ι : List Addr} {h : List Ob}
theorem putD_keys {k : Key} {x : D} : ∀ {ks : List Key} {ds : List D}, ds.length = ks.length → (k ∈ ks ∧ (putD k x ks ds).1 = ks) ∨ (k ∉ ks ∧ (putD k x ks ds).1 = ks ++ [k])
  | [], [], _ => .inr ⟨by simp, by simp [putD]⟩
  | [], d :: ds, e => by cases e
  | j :: ks, [], e => by cases e
  | j :: ks, d :: ds, e => by
    have e' : ds.length = ks.length := by simpa using e
    unfold putD
    by_cases c : j = k
    · rw [if_pos c]
      exact .inl ⟨c ▸ .head _, rfl⟩
    · rw [if_neg c]
      dsimp only
      rcases putD_keys (k := k) (x := x) e' with ⟨m, q⟩ | ⟨m, q⟩
      · exact .inl ⟨.tail _ m, by rw [q]⟩
      · refine .inr ⟨fun z => ?_, by rw [q]; rfl⟩
        cases z with
        | head => exact c rfl
        | tail _ z => exact m z
theorem putD_nodup {k : Key} {x : D} {ks : List Key} {ds : List D} (e : ds.length = ks.length) (nd : ks.Nodup) : (putD k x ks ds).1.Nodup := by
  rcases putD_keys (k := k) (x := x) e with ⟨m, q⟩ | ⟨m, q⟩
  · rw [q]
    exact nd
  · rw [q, List.nodup_append]
    refine ⟨nd, by simp, fun a ha b hb => ?_⟩
    rw [List.mem_singleton.mp hb]
    exact fun z => m (z ▸ ha)
theorem RK.dlen {ks : List Key} {ds : List D} {kvs : List (Key × V)} (r : RK K G ι ks ds kvs) : ds.length = ks.length := by
  have := r.2.1
  rw [← r.len]
  simpa using this.symm
theorem RK.merge : ∀ {ks2 : List Key} {ds2 : List D} {more : List (Key × V)} {ks : List Key} {ds : List D} {kvs : List (Key × V)}, RK K G ι ks ds kvs → ks.Nodup → RK K G ι ks2 ds2 more → RK K G ι (mergeD ks2 ds2 (ks, ds)).1 (mergeD ks2 ds2 (ks, ds)).2 (mergeK kvs more) := by
  intro ks2 ds2 more
  induction more generalizing ks2 ds2 with
  | nil =>
    intro ks ds kvs r nd r2
    rcases r2.cases with ⟨rfl, rfl, _⟩ | ⟨_, _, _, _, _, _, _, _, z, _⟩
    · unfold mergeD mergeK
      exact r
    · cases z
  | cons kv more ih =>
    intro ks ds kvs r nd r2
    rcases r2.cases with ⟨_, _, z⟩ | ⟨k, ks', d, ds', v, kvs', rfl, rfl, z, r3, r4⟩
    · cases z
    · cases z
      unfold mergeD
      exact ih (r.put nd r3) (putD_nodup r.dlen nd) r4
end
section
variable {X : Cx} {C : Ct} {e : Expr}
def rDUpd : V → List V → Hp → VK → Prop := fun x vs H Q => ∃ a b kvs more, x = .ref a ∧ vs = [.ref b] ∧ a ≠ b ∧ H a = some (.dK kvs) ∧ H b = some (.dK more) ∧ kvs.length + more.length ≤ sizeLine ∧ Q .non (upd H a (.dK (mergeK kvs more)))
theorem mt_dupd : MtR X "dict.update" rDUpd := by
  intro pins s σ H x vs v us Q I rx rv h
  obtain ⟨a, b, kvs, more, rfl, rfl, ne, ha, hb, hz, q⟩ := h
  cases rx
  obtain ⟨u, rfl, ru⟩ := rv.one
  cases ru
  obtain ⟨z1, sm1, vs1, k1, d1⟩ := dk_of I.hok ha
  obtain ⟨z2, sm2, vs2, k2, d2⟩ := dk_of I.hok hb
  refine call_meetsIn PySem.F.slot_dict_update d1.typeIs PySem.F.entry_dict_update (PySem.F.args_dict_update_2 _ _) (meets_dict_update (mixKind X.prog X.w) a b ne sm2) ⟨vs1, vs2, d1, d2, by rw [← k1.length, ← k2.length]; exact hz, fun h' hm _ hs => ?_⟩
  have he : ∃ q, h'.get? a = some q := let ⟨q, _, _, hq, _⟩ := hm; ⟨q, hq⟩
  exact ⟨.non, _, d_write (t' := s.toks) I (by rw [ha]; exact True.intro) hs he (dk_new (Nat.le_trans (length_mergeK more kvs) hz) sm1 (KV.merge k2 k1) hm), rfl, q⟩
/-- d.update(d2) -/
def isRef (j : Nat) : D → Bool
  | .ref i => decide (i = j)
  | _ => false
def updE (h : List Ob) (x y : D) : Option (List Ob) := match x with
  | .ref j => if isRef j y = true then none else match h[j]?, dicOf h y with
    | some (.dic ks ds), some (ks2, ds2) => if ks.length + ks2.length ≤ 1000000 ∧ ks.Nodup then some (h.set j (.dic (mergeD ks2 ds2 (ks, ds)).1 (mergeD ks2 ds2 (ks, ds)).2)) else none
    | _, _ => none
  | _ => none
def updM (fo : M D) (fa : M (List D)) : M D := bnd fo fun x => bnd (fun e => match x with
    | .ref k => match e.h[k]? with
      | some (.dic _ _) => .ok () e
      | _ => .stuck
    | _ => .stuck : M Unit) fun _ => bnd fa fun ds e => match ds with
  | [y] => match updE e.h x y with
    | some h' => .ok .non ⟨e.ρ, h'⟩
    | none => .stuck
  | _ => .stuck
theorem v_upd {fo : M D} {fa : M (List D)} (p : PE X e (tBM C.K "dict" rDUpd (tF C fo) (tFA C fa))) : PE X e (tF C (updM fo fa)) := imE p fun σ H Q h => by
  obtain ⟨G, ι, en, k, h⟩ := h
  refine ⟨G, ι, en, k, PX.imp h.bnd fun x e1 G1 ι1 H1 u1 k1 q1 v rx => ?_⟩
  have q2 := PX.bnd q1
  cases rx with
  | @ref j a hj =>
    dsimp only at q2
    split at q2
    · rename_i ks ds hc
      obtain ⟨us, h1, h2⟩ := k1.hs.cell hj hc
      refine ⟨.inr (.inr (.inl ⟨rfl, .inl ⟨us, h1⟩⟩)), G1, ι1, e1, k1, PX.imp (PX.bnd (q2.now k1)) fun ds e2 G2 ι2 H2 u2 k2 q3 vs rs => ?_⟩
      have hj2 := pre_get u2.i hj
      match ds, rs, q3 with
      | [], _, q3 => exact q3.elim
      | x :: y :: r, _, q3 => exact q3.elim
      | [y], rs, q3 =>
        obtain ⟨b, rfl, ry⟩ := rs.one_of
        dsimp only at q3
        split at q3
        · rename_i h' hh
          unfold updE at hh
          dsimp only at hh
          split at hh
          · cases hh
          · rename_i cne
            split at hh
            · rename_i ks0 ds0 ks2 ds2 hk0 hk2
              split at hh
              · rename_i cc
                cases hh
                obtain ⟨kvs, b1, b2⟩ := k2.hs.cell hj2 hk0
                obtain ⟨b, more, rfl, c1, c2⟩ := dic_rd k2.hs ry hk2
                refine ⟨a, b, kvs, more, rfl, rfl, fun z => ?_, b1, c1, ?_, ?_⟩
                · subst z
                  cases ry with
                  | @ref i _ hi =>
                    refine cne ?_
                    have hil : i < ι2.length := (List.getElem?_eq_some_iff.mp hi).1
                    have hjl : j < ι2.length := (List.getElem?_eq_some_iff.mp hj2).1
                    show decide (i = j) = true
                    exact decide_eq_true ((List.getElem?_inj hil k2.hs.nd).mp (hi.trans hj2.symm))
                  | dic hh _ _ _ =>
                    have := k2.hs.g a (List.mem_of_getElem? hj2)
                    rw [this] at hh
                    cases hh
                  | tup hh _ _ => cases hk2
                  | lst hh _ _ => cases hk2
                  | scr hh _ _ => cases hk2
                  | obj hh _ _ _ => cases hk2
                  | nd hh => cases hk2
                · rw [b2.len, c2.len]
                  exact Nat.le_trans cc.1 (by decide)
                · exact q3 G2 ι2 _ Up.refl (k2.mut hj2 hk0 ⟨_, upd_same, b2.merge cc.2 c2⟩) _ .non
              · cases hh
            · cases hh
        · exact q3.elim
    · exact q2.elim
  | _ => exact q2.elim
end
section
variable {K : PySem.W.Frag}
/-- dict(xs) of pairs -/
def pairsOf : List D → Option (List Key × List D)
  | [] => some ([], [])
  | .tup [k, v] :: r => match keyD k, pairsOf r with
    | some k, some (ks, ds) => some (k :: ks, v :: ds)
    | _, _ => none
  | _ :: _ => none
def dictP (h : List Ob) : List D → Option Ob
  | [d] => match dicOf h d with
    | some (ks, ds) => some (.dic ks ds)
    | none => match lsqOf h d with
      | some xs => match pairsOf xs with
        | some (ks, ds) => some (.dic (mergeD ks ds ([], [])).1 (mergeD ks ds ([], [])).2)
        | none => none
      | none => none
  | _ => none
def rDictA (K : PySem.W.Frag) : List V → Hp → VK → Prop := fun xs H Q => (∃ (a : Addr) (kvs : List (Key × V)), xs = [.ref a] ∧ H a = some (.dK kvs) ∧ ∀ p, H p = none → Q (.ref p) (upd H p (.dK kvs))) ∨
  ∃ (a : Addr) (ps : List Addr) (kvs : List (Key × V)), xs = [.ref a] ∧ SqL K H a (ps.map V.ref) ∧ Paired (fun p kv => SqT K H p [kV kv.1, kv.2]) ps kvs ∧ ∀ p, H p = none → Q (.ref p) (upd H p (.dK (mergeK [] kvs)))
theorem call_dictA {X : Cx} (hc : X.calm = true) : CallR X (.type "dict") (rDictA X.K) := by
  intro pins s σ H xs us Q I r q
  rcases q with ⟨a, kvs, rfl, ha, q⟩ | q
  · obtain ⟨u, eu, rx⟩ := vals1 r
    subst eu
    cases rx
    exact d_copyOf I (.inl ha) fun p s' n J => ⟨.ref p, _, J, rfl, q p n⟩
  · exact call_dictP hc pins s σ H xs us Q I r q
theorem pairs_rd {G : Hp} {ι : List Addr} {H : Hp} {h : List Ob} (s : Hs K G ι H h) : ∀ {xs : List D} {vs : List V} {ks : List Key} {ds : List D}, RDs K G ι xs vs → pairsOf xs = some (ks, ds) → ∃ ps kvs, vs = ps.map V.ref ∧ Paired (fun p kv => SqT K H p [kV kv.1, kv.2]) ps kvs ∧ RK K G ι ks ds kvs
  | [], vs, ks, ds, r, e => by
    cases e
    exact ⟨[], [], r.inv_nil, .nil, rfl, .nil⟩
  | x :: xs, vs, ks, ds, r, e => by
    obtain ⟨v, vs', rfl, r1, r2⟩ := r.inv_cons
    unfold pairsOf at e
    split at e
    · rename_i hx
      cases hx
    · rename_i k d r' hx
      cases hx
      split at e
      · rename_i k' ks' ds' hk hp
        cases e
        obtain ⟨ps, kvs, rfl, pp, rk⟩ := pairs_rd s r2 hp
        cases r1 with
        | @tup a us _ hh l q =>
          have ru : RDs K G ι [k, d] us := ⟨l, q⟩
          obtain ⟨u1, us1, rfl, c1, c2⟩ := ru.inv_cons
          obtain ⟨u2, us2, rfl, c3, c4⟩ := c2.inv_cons
          obtain rfl := c4.inv_nil
          obtain rfl := key_rd c1 hk
          refine ⟨a :: ps, (k', u2) :: kvs, rfl, .cons (sqT_at (fun o q => s.s _ o q) hh) pp, by rw [List.map_cons, rk.1], ?_⟩
          exact .cons c3 rk.2
      · cases e
    · cases e
theorem s_dictA : OpNO K (rDictA K) dictP := by
  intro G ι H h xs o vs Q s rs e q
  match xs, rs, e with
  | [], _, e => cases e
  | x :: y :: r, _, e => cases e
  | [x], rs, e =>
    obtain ⟨v, rfl, r⟩ := rs.one_of
    unfold dictP at e
    dsimp only at e
    split at e
    · rename_i ks ds hd
      cases e
      obtain ⟨a, kvs, rfl, h1, h2⟩ := dic_rd s r hd
      exact .inl ⟨a, kvs, rfl, h1, fun p n => q _ p (Same.new n) (s.temp n) (s.gnone n) (s.not_mem n) ⟨kvs, upd_same, h2⟩⟩
    · split at e
      · rename_i ys hy
        split at e
        · rename_i ks ds hp
          cases e
          obtain ⟨a, us, rfl, h1, h2⟩ := lsq_rd s r hy
          obtain ⟨ps, kvs, rfl, pp, rk⟩ := pairs_rd s h2 hp
          exact .inr ⟨a, ps, kvs, rfl, h1, pp, fun p n => q _ p (Same.new n) (s.temp n) (s.gnone n) (s.not_mem n) ⟨_, upd_same, RK.merge (K := K) (ks := []) (ds := []) (kvs := []) ⟨rfl, .nil⟩ (by simp) rk⟩⟩
        · cases e
      · cases e
/-- max(xs), min(xs) -/
def maxI : List Int → Option Int
  | [] => none
  | [x] => some x
  | x :: xs => (maxI xs).map fun y => if x < y then y else x
def minI : List Int → Option Int
  | [] => none
  | [x] => some x
  | x :: xs => (minI xs).map fun y => if y < x then y else x
theorem maxI_ok : ∀ {xs : List Int} {m : Int}, maxI xs = some m → m ∈ xs ∧ ∀ y ∈ xs, y ≤ m
  | [], m, e => by cases e
  | [x], m, e => by
    cases e
    simp
  | x :: y :: xs, m, e => by
    unfold maxI at e
    obtain ⟨n, en, rfl⟩ := Option.map_eq_some_iff.mp e
    obtain ⟨a, b⟩ := maxI_ok en
    split
    · refine ⟨.tail _ a, fun z hz => ?_⟩
      cases hz with
      | head => omega
      | tail _ hz => exact b z hz
    · refine ⟨.head _, fun z hz => ?_⟩
      cases hz with
      | head => omega
      | tail _ hz =>
        have := b z hz
        omega
theorem minI_ok : ∀ {xs : List Int} {m : Int}, minI xs = some m → m ∈ xs ∧ ∀ y ∈ xs, m ≤ y
  | [], m, e => by cases e
  | [x], m, e => by
    cases e
    simp
  | x :: y :: xs, m, e => by
    unfold minI at e
    obtain ⟨n, en, rfl⟩ := Option.map_eq_some_iff.mp e
    obtain ⟨a, b⟩ := minI_ok en
    split
    · refine ⟨.tail _ a, fun z hz => ?_⟩
      cases hz with
      | head => omega
      | tail _ hz => exact b z hz
    · refine ⟨.head _, fun z hz => ?_⟩
      cases hz with
      | head => omega
      | tail _ hz =>
        have := b z hz
        omega
def maxL (h : List Ob) : List D → Option D
  | [d] => match lsqOf h d with
    | some xs => match intsOf xs with
      | some ns => (maxI ns).map .int
      | none => none
    | none => none
  | _ => none
def minL (h : List Ob) : List D → Option D
  | [d] => match lsqOf h d with
    | some xs => match intsOf xs with
      | some ns => (minI ns).map .int
      | none => none
    | none => none
  | _ => none
theorem pos_of_mem {x : Int} {xs : List Int} (h : x ∈ xs) : 0 < xs.length := by
  cases xs with
  | nil => cases h
  | cons y ys => simp
theorem s_maxL : OpN K (rMax K) maxL := by
  intro G ι H h xs d vs Q s rs e q
  match xs, rs, e with
  | [], _, e => cases e
  | x :: y :: r, _, e => cases e
  | [x], rs, e =>
    obtain ⟨v, rfl, r⟩ := rs.one_of
    unfold maxL at e
    dsimp only at e
    split at e
    · rename_i ys hy
      split at e
      · rename_i ns hn
        obtain ⟨m, hm, rfl⟩ := Option.map_eq_some_iff.mp e
        obtain ⟨a, us, rfl, h1, h2⟩ := lsq_rd s r hy
        obtain rfl := ints_rd h2 hn
        obtain ⟨m1, m2⟩ := maxI_ok hm
        refine ⟨a, ns, rfl, h1, pos_of_mem m1, fun m' a1 a2 => ?_⟩
        have : m' = m := Int.le_antisymm (m2 m' a1) (a2 m m1)
        subst this
        exact q G H _ (Same.refl _) (Same.refl _) s (.int _)
      · cases e
    · cases e
theorem s_minL : OpN K (rMin K) minL := by
  intro G ι H h xs d vs Q s rs e q
  match xs, rs, e with
  | [], _, e => cases e
  | x :: y :: r, _, e => cases e
  | [x], rs, e =>
    obtain ⟨v, rfl, r⟩ := rs.one_of
    unfold minL at e
    dsimp only at e
    split at e
    · rename_i ys hy
      split at e
      · rename_i ns hn
        obtain ⟨m, hm, rfl⟩ := Option.map_eq_some_iff.mp e
        obtain ⟨a, us, rfl, h1, h2⟩ := lsq_rd s r hy
        obtain rfl := ints_rd h2 hn
        obtain ⟨m1, m2⟩ := minI_ok hm
        refine ⟨a, ns, rfl, h1, pos_of_mem m1, fun m' a1 a2 => ?_⟩
        have : m' = m := Int.le_antisymm (a2 m m1) (m2 m' a1)
        subst this
        exact q G H _ (Same.refl _) (Same.refl _) s (.int _)
      · cases e
    · cases e
end
end Fv


set_option Elab.async false
set_option linter.all false
set_option maxRecDepth 100000
set_option maxHeartbeats 4000000
set_option autoImplicit false
namespace Fv
open PySem PySem.Spec PyProof.Rows L2 Bm
section
variable {C : Ct}
theorem imDin {fd fy : M D} (σ : L2.St) (H : Hp) (Q : VK) (h : tF C (e2 dinD fy fd) σ H Q) : tDInN (tF C fy) (tF C fd) σ H Q := by
  obtain ⟨G, ι, en, k, h⟩ := h
  refine ⟨G, ι, en, k, PX.imp h.bnd fun y e1 G1 ι1 H1 u1 k1 q1 v rv => ⟨G1, ι1, e1, k1, PX.imp q1.bnd fun x e2 G2 ι2 H2 u2 k2 q2 u ru => ?_⟩⟩
  obtain ⟨d, hd, q⟩ := q2.lft
  obtain ⟨b, hb, rfl⟩ := Option.map_eq_some_iff.mp hd
  unfold dinF at hb
  split at hb
  · rename_i ks ds hk
    obtain ⟨a, kvs, rfl, h1, h2⟩ := dic_rd k2.hs ru hk
    have go : ∀ j, keyD y = some j → some (valD j ks ds).isSome = some b → ∃ a o, V.ref a = .ref a ∧ DGet H2 a v o ∧ Q (.bl o.isSome) H2 := fun j hj eb => by
      obtain rfl := key_rd (rv.up u2) hj
      refine ⟨a, _, rfl, DGet.k h1, ?_⟩
      have hq : (valV kvs j).isSome = b := by
        rw [← Option.some.inj eb]
        rcases h2.val j with ⟨z1, z2⟩ | ⟨d', w, a1, a2, a3⟩
        · rw [z1, z2] <;> rfl
        · rw [a1, a2] <;> rfl
      rw [hq]
      exact q.now k2 _ (.bl b)
    split at hb
    · cases hb
      cases rv
      exact .inr ⟨a, kvs, rfl, rfl, .inl h1, q.now k2 _ (.bl _)⟩
    · split at hb
      · rename_i j hj
        obtain ⟨a', o, _, z1, z2⟩ := go j hj hb
        obtain rfl := key_rd (rv.up u2) hj
        refine .inl ⟨a, _, rfl, DGet.k h1, ?_⟩
        have hq : (valV kvs j).isSome = b := by
          rw [← Option.some.inj hb]
          rcases h2.val j with ⟨z1, z2⟩ | ⟨d', w, a1, a2, a3⟩
          · rw [z1, z2] <;> rfl
          · rw [a1, a2] <;> rfl
        rw [hq]
        exact q.now k2 _ (.bl b)
      · cases hb
  · cases hb
theorem imDnotin {fd fy : M D} (σ : L2.St) (H : Hp) (Q : VK) (h : tF C (e2 dnotinD fy fd) σ H Q) : tDNotInN (tF C fy) (tF C fd) σ H Q := by
  obtain ⟨G, ι, en, k, h⟩ := h
  refine ⟨G, ι, en, k, PX.imp h.bnd fun y e1 G1 ι1 H1 u1 k1 q1 v rv => ⟨G1, ι1, e1, k1, PX.imp q1.bnd fun x e2 G2 ι2 H2 u2 k2 q2 u ru => ?_⟩⟩
  obtain ⟨d, hd, q⟩ := q2.lft
  obtain ⟨b, hb, hd⟩ := Option.map_eq_some_iff.mp hd
  subst hd
  unfold dinF at hb
  split at hb
  · rename_i ks ds hk
    obtain ⟨a, kvs, rfl, h1, h2⟩ := dic_rd k2.hs ru hk
    split at hb
    · have hb := Option.some.inj hb
      subst hb
      cases rv
      exact .inr ⟨a, kvs, rfl, rfl, .inl h1, q.now k2 _ (.bl _)⟩
    · split at hb
      · rename_i j hj
        obtain rfl := key_rd (rv.up u2) hj
        refine .inl ⟨a, _, rfl, DGet.k h1, ?_⟩
        have hq : (valV kvs j).isSome = b := by
          rw [← Option.some.inj hb]
          rcases h2.val j with ⟨z1, z2⟩ | ⟨d', w, a1, a2, a3⟩
          · rw [z1, z2] <;> rfl
          · rw [a1, a2] <;> rfl
        rw [hq]
        exact q.now k2 _ (.bl (!b))
      · cases hb
  · cases hb
theorem imChain {r r' : R2} {g g' : List Ob → D → D → Option D} {fa fb fc : M D} (s : Op2 C.K r g) (s' : Op2 C.K r' g') (σ : L2.St) (H : Hp) (Q : VK) (h : tF C (chM g g' fa fb fc) σ H Q) : tChain r r' (tF C fa) (tF C fb) (tF C fc) σ H Q := by
  obtain ⟨G, ι, en, k, h⟩ := h
  refine ⟨G, ι, en, k, PX.imp h.bnd fun x e1 G1 ι1 H1 u1 k1 q1 u ru => ⟨G1, ι1, e1, k1, PX.imp q1.bnd fun y e2 G2 ι2 H2 u2 k2 q2 v rv => ?_⟩⟩
  have q3 := PX.bM q2
  obtain ⟨d, hd, q4⟩ := q3.lft
  refine s G2 ι2 H2 e2.h x y d u v _ k2.hs (ru.up u2) rv hd fun G3 H3 w g3 s3 hs3 r3 => ?_
  have k3 := k2.grow g3 s3 hs3
  have up3 : Up G2 ι2 G3 ι2 := ⟨g3, List.prefix_refl _⟩
  obtain ⟨b, rfl, q5⟩ := q4 G3 ι2 H3 up3 k3 w r3
  refine ⟨b, rfl, ?_⟩
  cases b with
  | true =>
    refine iteT ⟨G3, ι2, e2, k3, PX.imp (PX.bnd q5) fun z e4 G4 ι4 H4 u4 k4 q6 t rt => ?_⟩
    obtain ⟨d2, hd2, q7⟩ := q6.lft
    exact s' G4 ι4 H4 e4.h y z d2 v t Q k4.hs (rv.up (up3.trans u4)) rt hd2 fun G' H' w g1 s1 hs r => q7 G' ι4 H' ⟨g1, List.prefix_refl _⟩ (k4.grow g1 s1 hs) w r
  | false => exact iteF (PX.now (a := D.bl false) q5 k3 _ (.bl _))
theorem v_tchain {X : Cx} {op op' : CmpOp} {a b c : Expr} {pos : Pos} {r r' : R2} {g g' : List Ob → D → D → Option D} {fa fb fc : M D} (ho : OpR X (compareOp op) r) (ho' : OpR X (compareOp op') r') (s : Op2 C.K r g) (s' : Op2 C.K r' g')
    (ha : PE X a (tF C fa)) (hb : PE X b (tF C fb)) (hc : PE X c (tF C fc)) (hm : lastMarks [op, op'] [b, c] = false := by with_unfolding_all rfl) : PT X (.Compare a [op, op'] [b, c] pos) (tFB C (bM (chM g g' fa fb fc))) :=
  imT (pt_chain ho ho' ha hb hc hm) fun σ H Q h => imChain s s' σ H _ (by
    obtain ⟨G, ι, en, k, h⟩ := h
    refine ⟨G, ι, en, k, PX.imp h.bnd fun d e1 G1 ι1 H1 u1 k1 q1 v r => ?_⟩
    cases r with
    | bl b => exact ⟨b, rfl, PX.now (a := b) q1 k1⟩
    | _ => exact q1.elim)
end
end Fv


set_option Elab.async false
set_option linter.all false
set_option maxRecDepth 100000
set_option maxHeartbeats 4000000
set_option autoImplicit false
/-! x in (..) for x of any data -/
namespace Fv
open PySem PySem.Spec PyProof.Rows L2 Bm
def inU (h : List Ob) (x y : D) : Option D := match inF h x y with
  | some b => some (.bl b)
  | none => match dataOf h x, dataOf h y with
    | some p, some (.tuple qs) => if SeqAt.shaped p = true ∧ SeqAt.shaped (.tuple qs) = true then some (.bl (qs.any fun z => PyData.eqv z p)) else none
    | _, _ => none
def rInDT (K : PySem.W.Frag) : R2 := fun x y H Q => ∃ d ds, Dp K H x d ∧ Dp K H y (.tuple ds) ∧ SeqAt.shaped d = true ∧ SeqAt.shaped (.tuple ds) = true ∧ Q (.bl (ds.any fun z => PyData.eqv z d)) H
theorem op_inDT {X : Cx} (hu : X.A.units + 65 < cLine) : OpR X (compareOp .In) (rInDT X.K) := by
  intro pins s σ H x y v u Q I rx ry h
  obtain ⟨d, ds, hd, he, sd, se, q⟩ := h
  obtain ⟨as, r1⟩ := Dp.reads I d x v hd rx
  obtain ⟨bs, r2⟩ := Dp.reads I (.tuple ds) y u he ry
  exact SeqAt.in_tuple_reads r2 r1 (SeqAt.canLay_of_shaped se) (SeqAt.canLay_of_shaped sd) (room_in_shaped sd hu) ⟨.bl _, H, I, rfl, q⟩
def rInU (K : PySem.W.Frag) : R2 := fun x y H Q => rInA K x y H Q ∨ rInDT K x y H Q
theorem opA_inU {X : Cx} (hu : X.A.units + 65 < cLine) : OpR X (compareOp .In) (rInU X.K) := OpR.or opA_in (op_inDT hu)
theorem s_inU {K : PySem.W.Frag} : Op2 K (rInU K) inU := by
  intro G ι H h x y d u v Q s rx ry e q
  unfold inU at e
  split at e
  · rename_i b hb
    cases e
    exact .inl (s_in G ι H h x y (.bl b) u v Q s rx ry (by unfold inD; rw [hb]; rfl) q)
  · split at e
    · rename_i p qs h1 h2
      split at e
      · rename_i c
        cases e
        exact .inr ⟨p, qs, data_dp s rx h1, data_dp s ry h2, c.1, c.2, q G H _ (Same.refl _) (Same.refl _) s (.bl _)⟩
      · cases e
    · cases e
@[simp] theorem x_inU (h : List Ob) (x y : D) : inU h x y = match inF h x y with
  | some b => some (.bl b)
  | none => match dataOf h x, dataOf h y with
    | some p, some (.tuple qs) => if SeqAt.shaped p = true ∧ SeqAt.shaped (.tuple qs) = true then some (.bl (qs.any fun z => PyData.eqv z p)) else none
    | _, _ => none := rfl
theorem u65 {k : Nat} {A : Around} (r : Room k A) : A.units + 65 < cLine := by
  have := r.un
  omega
end Fv


set_option Elab.async false
set_option linter.all false
set_option maxRecDepth 100000
set_option maxHeartbeats 4000000
set_option autoImplicit false
/-! tuple * 0 -/
namespace Fv
open PySem PySem.Spec PyProof.Rows L2 Bm
theorem tuple_mul0 (l : Addr) (items : Array Value) (n : Nat) (dd : Option Addr) (sl : Array (Option Value)) (u : Tok) (c1 : (items.isEmpty || (0 : Int) == 1) = false) :
    Meets (Builtin.«tuple.__mul__» ⟨[.ref l, .int 0 u], []⟩) (fun _ R s => s.heap.get? l = some { cls := .type "tuple", dict := dd, data := .seq items n, slots := sl } ∧
      R (.ok (.ret (Value.ref s.heap.objs.size))) { s with heap := s.heap.push { cls := Value.type "tuple", data := Data.seq #[] }, toks := s.toks }) :=
  .of_wp fun prog w A R s h => by
    obtain ⟨hp, g, d, tk, os⟩ := s
    obtain ⟨hl, h⟩ := h
    have f1 := AutoSeq1.idx_int
    wp_walk using wpAny_loadPart' hl
    repeat (first
      | (refine wpAny_ite_false (decide_eq_false (by decide)) ?_; wp_walk using wpAny_loadPart' hl)
      | (refine wpAny_ite_false (decide_eq_false (by rw [c1]; exact Bool.false_ne_true)) ?_; wp_walk using wpAny_loadPart' hl)
      | (refine wpAny_ite_true (decide_eq_true (by simp)) ?_; wp_walk using wpAny_loadPart' hl))
    exact ⟨_, rfl, h⟩
def rRep0 (K : PySem.W.Frag) : R2 := fun x y H Q => ∃ l xs, x = .ref l ∧ y = .int 0 ∧ SqT K H l xs ∧ xs ≠ [] ∧ ∀ p, H p = none → Q (.ref p) (upd H p (.tup []))
theorem op_rep0 {X : Cx} : OpR X (binaryOp .Mult) (rRep0 X.K) := by
  intro pins s σ H x y v u Q I rx ry h
  obtain ⟨l, xs, rfl, rfl, hT, hne, q⟩ := h
  cases rx
  obtain ⟨t, rfl⟩ := ry
  obtain ⟨its, r, ⟨⟨cls, dd, data, sl⟩, ho, hc, n, hd⟩, hs⟩ := I.tuple hT
  simp only at hc hd
  subst hc hd
  have hle : its.length = xs.length := r.length.symm
  have hn : its ≠ [] := fun e => hne (by
    rw [e] at hle
    exact List.eq_nil_of_length_eq_zero hle.symm)
  have c1 : (its.toArray.isEmpty || (0 : Int) == 1) = false := by
    cases its with
    | nil => exact absurd rfl hn
    | cons a b => rfl
  refine wpAny_binaryOp_repeat_ref (T := "tuple") (U := "int") (by decide) ⟨_, ho, rfl⟩ (fun s' => typeIs_int s' 0 t) noFill_tuple_mul F.fills_int_mul F.slot_int_rmul repeat_tuple F.slot_int_index.lookup
    (call_meets F.slot_int_rmul (typeIs_int s 0 t) F.entry_int_rmul (F.args_int_rmul_2 _ _) (int_rmul_tuple 0 t l its.toArray n dd sl)
      ⟨ho, rfl, ⟨_, ho, rfl⟩, call_meets F.slot_tuple_mul ⟨_, ho, rfl⟩ F.entry_tuple_mul (F.args_tuple_mul_2 _ _) (tuple_mul0 l its.toArray n dd sl t c1) ⟨ho, ?_⟩⟩)
  refine ⟨.ref s.heap.objs.size, _, I.laid (t' := s.toks) (o := .tup []) (fun b ob q => Heap.get?_push_of_some _ q) (Nat.le_refl _) ?_, rfl, q _ (I.hok.fresh (Nat.le_refl _))⟩
  exact ⟨Nat.zero_le _, [], .nil, IsTup.new _ _⟩
def rMul0 (K : PySem.W.Frag) : R2 := fun x y H Q => rMulA K x y H Q ∨ rRep0 K x y H Q
theorem op_mul0 {X : Cx} : OpR X (binaryOp .Mult) (rMul0 X.K) := OpR.or opA_mul op_rep0
def mul0D (h : List Ob) (x y : D) : Option D := match x, y with
  | .tup (a :: xs), .int 0 => some (.tup [])
  | x, y => mulA h x y
theorem s_mul0 {K : PySem.W.Frag} : Op2 K (rMul0 K) mul0D := by
  intro G ι H h x y d u v Q s rx ry e q
  unfold mul0D at e
  split at e
  · rename_i a xs
    cases e
    cases ry
    cases rx with
    | @tup l vs _ hh hl hq =>
      refine .inr ⟨l, vs, rfl, rfl, sqT_at (fun o q => s.s _ o q) hh, fun z => ?_, fun p n => ?_⟩
      · rw [z] at hl
        cases hl
      · exact q _ _ _ (s.same_new n) (Same.new n) (s.new n) (.tup' (.inl (.inl upd_same)) .nil)
  · exact .inl (s_mul G ι H h _ _ d u v Q s rx ry e q)
theorem x_mul0 (h : List Ob) (a : D) (xs : List D) : mul0D h (.tup (a :: xs)) (.int 0) = some (.tup []) := rfl
end Fv


set_option Elab.async false
set_option linter.all false
set_option maxRecDepth 100000
set_option maxHeartbeats 4000000
set_option autoImplicit false
/-! dicts whose keys are flat tuples: {}, k in d, d[k] = v -/
namespace Fv
open PySem PySem.Spec PyProof.Rows L2 Bm
def tTdNew (w : World) : TE := fun _ H Q => ∀ p, H p = none → Q (.ref p) (upd H p (.ext (TupD w p [])))
def tTdIn (w : World) (K : PySem.W.Frag) (ty td : TE) : TE := fun σ H Q => ty σ H fun y H1 => td σ H1 fun x H2 => ∃ (a b : Addr) (xs : List (NestedKey × Addr)) (k : NestedKey), x = .ref a ∧ y = .ref b ∧ H2 a = some (.ext (TupD w a xs)) ∧ (∀ x ∈ xs, KeyAt K H2 x) ∧ KeyAt K H2 (k, b) ∧ Q (.bl (decide (k ∈ xs.map (·.1)))) H2
def sTdPut (w : World) (K : PySem.W.Frag) (td ty tv : TE) : TS := fun D σ H => tv σ H fun v H1 => td σ H1 fun x H2 => ty σ H2 fun y H3 => ∃ (a b : Addr) (xs : List (NestedKey × Addr)) (k : NestedKey), x = .ref a ∧ y = .ref b ∧ H3 a = some (.ext (TupD w a xs)) ∧ (∀ x ∈ xs, KeyAt K H3 x) ∧ KeyAt K H3 (k, b) ∧ xs.length < 1000000 ∧ D.nx σ (upd H3 a (.ext (TupD w a (putNK xs k b))))
section
variable {X : Cx} {o i value : Expr} {pos pos' : Pos} {td ty tv : TE}
theorem pe_tdnew : PE X (.Dict [] [] pos) (tTdNew X.w) := ⟨fun pins s σ H Q I h => by
  refine wpAny_Dict_empty ?_
  have hm : (s.heap.objs.size == sysModules) = false := beq_eq_false_iff_ne.mpr (Nat.ne_of_gt I.big)
  have n : TupD X.w s.heap.objs.size [] (s.heap.push { cls := .type "dict", data := .dict #[] }) := TupD.of (P := X.prog) (ys := []) hm (Heap.DictOfH.new s.heap)
  exact ⟨.ref s.heap.objs.size, _, I.laid (a := s.heap.objs.size) (o := .ext (TupD X.w s.heap.objs.size [])) (t' := s.toks) (fun _ _ q => Heap.get?_push_of_some _ q) (Nat.le_refl _) n.objOk, rfl, h _ (I.hok.fresh (Nat.le_refl _))⟩⟩
theorem nroom (hu : X.A.units + 65 < cLine) : (nestedKind X.prog X.w).room X.A.in1 := by
  show X.A.units + 1 + 8 < cLine
  omega
theorem pc_tdin (hu : X.A.units + 65 < cLine) (hi : PE X i ty) (ho : PE X o td) : PC X .In i o (tTdIn X.w X.K ty td) := by
  refine ⟨fun pins s σ H Q I h => ?_⟩
  refine thn (hi.run pins s σ H _ I h) fun iv s1 ⟨y, H1, I1, ry, q1⟩ => thn (ho.run pins s1 σ H1 _ I1 q1) fun u s2 ⟨x, H2, I2, rx, a, b, xs, k, ex, ey, hh, ks, kb, q2⟩ => ?_
  subst ex ey
  obtain rfl : u = Value.ref a := rx
  obtain rfl : iv = Value.ref b := ry
  obtain ⟨hm, ys, e, d⟩ := (show TupD X.w a xs s2.heap from (show L2.ObjOk X.prog X.w H2 s2.heap a (.ext (TupD X.w a xs)) from I2.hok a _ hh).1).dict (P := X.prog) fun x m => (ks x m).is I2
  refine wpAny_in_heap (nroom hu) (kb.is I2) hm d ?_
  rw [atKey_mem, e]
  exact ⟨.bl _, H2, I2.tok _, rfl, q2⟩
theorem ps_tdput (hu : X.A.units + 65 < cLine) (ho : PE X o td) (hi : PE X i ty) (hv : PE X value tv) (hs : swapsWith value (some (.Subscript o i pos')) pos.line X.env = pure false) :
    PS X (.Assign [.Subscript o i pos'] value pos) (sTdPut X.w X.K td ty tv) := by
  refine ⟨fun pins s σ H D I h => ?_⟩
  refine wpAny_Assign_Subscript (thn (hv.run pins s σ H _ I h) fun r s1 ⟨v, H1, I1, rv, q1⟩ => thn (ho.run pins s1 σ H1 _ I1 q1) fun u s2 ⟨x, H2, I2, rx, q2⟩ => thn (hi.run pins s2 σ H2 _ I2 q2) fun iv s3 ⟨y, H3, I3, ry, a, b, xs, k, ex, ey, hh, ks, kb, hl, q3⟩ => ?_) hs
  subst ex ey
  obtain rfl : u = Value.ref a := rx
  obtain rfl : iv = Value.ref b := ry
  obtain ⟨hm, ys, e, d⟩ := (show TupD X.w a xs s3.heap from (show L2.ObjOk X.prog X.w H3 s3.heap a (.ext (TupD X.w a xs)) from I3.hok a _ hh).1).dict (P := X.prog) fun x m => (ks x m).is I3
  have ly : ys.length ≤ sizeLine := by
    have := congrArg List.length e
    rw [List.length_map] at this
    rw [sizeLine_eq]
    omega
  refine wpAny_setItem_heap (hsz := ly) (nroom hu) (kb.is I3) d fun h' d' hs => ?_
  have n := TupD.of hm d'
  rw [stored_put, e] at n
  exact ⟨σ, _, d_write I3 (by rw [hh]; trivial) hs n.there n.objOk, q3⟩
end
def flatN : D → Option NestedKey
  | .non => some .none
  | .bl b => some (.num (if b = true then 1 else 0))
  | .int i => some (.num i)
  | .str x => some (.text x)
  | _ => none
def flatNs : List D → Option (List NestedKey)
  | [] => some []
  | d :: ds => match flatN d, flatNs ds with
    | some k, some ks => some (k :: ks)
    | _, _ => none
def keyN : D → Option NestedKey
  | .tup ds => (flatNs ds).map .tup
  | _ => none
open Classical in
noncomputable def inTD (w : World) (h : List Ob) (x y : D) : Option D := match y with
  | .ref j => match h[j]? with
    | some (.td w' ks) => if w' = w then (keyN x).map fun k => .bl (decide (k ∈ ks)) else none
    | _ => none
  | _ => none
open Classical in
noncomputable def putTD (w : World) (h : List Ob) (x y : D) : Option (List Ob) := match x with
  | .ref j => match h[j]?, keyN y with
    | some (.td w' ks), some k => if w' = w ∧ ks.length < 1000000 then some (h.set j (.td w (if k ∈ ks then ks else ks ++ [k]))) else none
    | _, _ => none
  | _ => none
noncomputable def tputM (w : World) (fd fy fv : M D) : M Fl := bnd fv fun _ => bnd fd fun x => bnd fy fun y e => match putTD w e.h x y with
  | some h' => .ok .nx ⟨e.ρ, h'⟩
  | none => .stuck
section
variable {K : PySem.W.Frag} {G H : Hp} {ι : List Addr}
theorem flatN_rd {d : D} {v : V} {k : NestedKey} (r : RD K G ι d v) (e : flatN d = some k) : flatV v = true ∧ kN v = k := by
  cases r with
  | non => cases e; exact ⟨rfl, rfl⟩
  | bl b => cases e; exact ⟨rfl, rfl⟩
  | int i => cases e; exact ⟨rfl, rfl⟩
  | str x => cases e; exact ⟨rfl, rfl⟩
  | _ => cases e
theorem flatNs_rd : ∀ {ds : List D} {vs : List V} {ks : List NestedKey}, RDs K G ι ds vs → flatNs ds = some ks → (∀ v ∈ vs, flatV v = true) ∧ vs.map kN = ks
  | [], vs, ks, r, e => by
    cases e
    obtain rfl := r.inv_nil
    exact ⟨fun v m => (nomatch m), rfl⟩
  | d :: ds, vs, ks, r, e => by
    obtain ⟨v, vs', rfl, r1, r2⟩ := r.inv_cons
    unfold flatNs at e
    split at e
    · rename_i k ks' h1 h2
      cases e
      obtain ⟨a1, a2⟩ := flatN_rd r1 h1
      obtain ⟨b1, b2⟩ := flatNs_rd r2 h2
      refine ⟨fun u m => ?_, by rw [List.map_cons, a2, b2]⟩
      rcases List.mem_cons.mp m with rfl | m
      · exact a1
      · exact b1 u m
    · cases e
theorem keyN_rd {d : D} {v : V} {k : NestedKey} (r : RD K G ι d v) (e : keyN d = some k) : ∃ b, v = .ref b ∧ KeyAt K G (k, b) := by
  cases r with
  | @tup a vs xs hh l q =>
    obtain ⟨ks, h1, rfl⟩ := Option.map_eq_some_iff.mp e
    obtain ⟨a1, a2⟩ := flatNs_rd (⟨l, q⟩ : RDs K G ι xs vs) h1
    exact ⟨a, rfl, vs, hh, a1, by rw [a2]⟩
  | _ => cases e
end
section
variable {X : Cx} {C : Ct} {e : Expr} {st : Stmt} {w : World}
theorem o_tdnew (p : PE X e (tTdNew w)) : PE X e (tFO C (ret (.td w []))) := imE p fun σ H Q h => by
  obtain ⟨G, ι, en, k, h⟩ := h
  exact fun p n => h G ι _ Up.refl (k.temp n) p (k.hs.gnone n) (k.hs.not_mem n) ⟨[], upd_same, rfl, fun x m => nomatch m⟩
theorem imTdIn {fd fy : M D} (σ : L2.St) (H : Hp) (Q : VK) (h : tF C (e2 (inTD w) fy fd) σ H Q) : tTdIn w C.K (tF C fy) (tF C fd) σ H Q := by
  obtain ⟨G, ι, en, k, h⟩ := h
  refine ⟨G, ι, en, k, PX.imp h.bnd fun y e1 G1 ι1 H1 u1 k1 q1 v rv => ⟨G1, ι1, e1, k1, PX.imp q1.bnd fun x e2 G2 ι2 H2 u2 k2 q2 u ru => ?_⟩⟩
  obtain ⟨d, hd, q⟩ := q2.lft
  unfold inTD at hd
  split at hd
  · rename_i j
    split at hd
    · rename_i w' ks hj
      split at hd
      · rename_i ew
        subst ew
        obtain ⟨kk, hk, rfl⟩ := Option.map_eq_some_iff.mp hd
        obtain ⟨b, rfl, kb⟩ := keyN_rd (rv.up u2) hk
        cases ru with
        | ref hi =>
          obtain ⟨xs, h1, h2, h3⟩ := k2.hs.cell hi hj
          refine ⟨_, b, xs, kk, rfl, rfl, h1, fun x m => (h3 x m).same k2.hs.s, kb.same k2.hs.s, ?_⟩
          rw [h2]
          exact q.now k2 _ (.bl _)
      · cases hd
    · cases hd
  · cases hd
theorem s_tdput {fd fy fv : M D} (p : PS X st (sTdPut w C.K (tF C fd) (tF C fy) (tF C fv))) : PS X st (tFS C (tputM w fd fy fv)) := imS p fun Z σ H h => by
  obtain ⟨G, ι, en, k, h⟩ := h
  refine ⟨G, ι, en, k, PX.imp (PS'.bnd h) fun v e1 G1 ι1 H1 u1 k1 q1 uv rv => ⟨G1, ι1, e1, k1, PX.imp (PS'.bnd q1) fun x e2 G2 ι2 H2 u2 k2 q2 ux rx => ⟨G2, ι2, e2, k2, PX.imp (PS'.bnd q2) fun y e3 G3 ι3 H3 u3 k3 q3 uy ry => ?_⟩⟩⟩
  split at q3
  · rename_i h' hh
    unfold putTD at hh
    split at hh
    · rename_i j
      split at hh
      · rename_i w' ks kk hj hk
        split at hh
        · rename_i c
          obtain ⟨rfl, c⟩ := c
          cases hh
          obtain ⟨b, rfl, kb⟩ := keyN_rd ry hk
          have rx3 := rx.up u3
          cases rx3 with
          | ref hi =>
            obtain ⟨xs, h1, h2, h3⟩ := k3.hs.cell hi hj
            refine ⟨_, b, xs, kk, rfl, rfl, h1, fun x m => (h3 x m).same k3.hs.s, kb.same k3.hs.s, by rw [← h2, List.length_map] at c; exact c, ?_⟩
            refine q3 G3 ι3 _ σ Up.refl (k3.mut hi hj ⟨_, upd_same, ?_, fun x m => ?_⟩)
            · unfold putNK
              rw [h2]
              split
              · exact h2
              · rw [List.map_append, h2]
                rfl
            · unfold putNK at m
              split at m
              · exact h3 x m
              · rcases List.mem_append.mp m with m | m
                · exact h3 x m
                · rw [List.mem_singleton.mp m]
                  exact kb
        · cases hh
      · cases hh
    · cases hh
  · exact q3.elim
@[simp] theorem x_inTD (h : List Ob) (x : D) (j : Nat) (w : World) : inTD w h x (.ref j) = match h[j]? with
    | some (.td w' ks) => open Classical in if w' = w then (keyN x).map fun k => .bl (decide (k ∈ ks)) else none
    | _ => none := rfl
end
end Fv


set_option autoImplicit false
set_option Elab.async false
set_option linter.all false
set_option maxRecDepth 100000
set_option maxHeartbeats 4000000
namespace Lk04
open PySem PySem.Spec PyProof.Rows L2 Bm Fv
section
variable {P : Program} {w : World} {K : PySem.W.Frag} {mg : Str → Option Value} {base : Heap}
noncomputable def F_law_same : Fun := sameF 3
theorem fnv_law_same (T : Txt K mg) (Df : Defs K) : Fn P w K mg base L2.CX0 4 "_law_same" (spF K 2 F_law_same) [] := same_fn (fn_law_same T Df 3)
end
section
variable {P : Program} {w : World} {K : PySem.W.Frag} {mg : Str → Option Value} {base : Heap}
theorem sc_law : FnScope ["_law_script", "_law_state", "_law_turn", "_law_first", "_law_more", "_law_met", "_law_word", "_law_told", "_law_deed_here", "_law_many", "_law_some", "_law_image", "_law_place"] ["_law_script"] (defScope s_law) := ⟨rfl, rfl, rfl, by decide +kernel, rfl, by decide +kernel, by decide +kernel⟩
noncomputable def B_law (w : World) : M Fl :=
  (seqM (setM (callM F_law_start [] (consM (eV 0) nilM)) (putS 1))
  (seqM (forM (rng1 (consM (ret (.int (3))) nilM)) (putS 2) (seqM (setM (frzM (lstM (consM (callM F_law_drawn [] (consM (eV 1) (consM (ret (.int (65536))) nilM))) (consM (e2 subD (e2 addD (e2 mulA (callM F_law_drawn [] (consM (eV 1) (consM (ret (.int (16))) nilM))) (ret (.int (4096)))) (ret (.int (4096)))) (callM F_law_drawn [] (consM (eV 1) (consM (ret (.int (200))) nilM)))) nilM)))) (putS 3))
  (seqM (setM (e2 ixD (eV 3) (callM F_law_drawn [] (consM (eV 1) (consM (ret (.int (2))) nilM)))) (putS 3))
  (seqM (setM (callM F_law_drawn [] (consM (eV 1) (consM (ret (.int (65536))) nilM))) (putS 4))
  (seqM (setM (callM F_law_drawn [] (consM (eV 1) (consM (ret (.int (199))) nilM))) (putS 12))
  (seqM (setM (pubM (ret (.td w []))) (putS 5))
  (seqM (forM (rng2 (consM (eV 3) (consM (e2 addD (eV 3) (ret (.int (200)))) nilM))) (putS 6) (seqM (setM (e2 addD (e2 mul0D (tupM (consM (ret (.int (0))) nilM)) (eV 12)) (tupM (consM (e2 modD (eV 6) (ret (.int (65536)))) (consM (eV 4) nilM)))) (putS 11))
  (seqM (setM (kindM (callM F_unpacked [] (consM (eV 11) (consM (eV 12) nilM)))) (putS 7))
  (ifS (bM (e2 neD (eV 7) (ret (.str "NoDeed"))))
  (seqM (setM (eV 7) (tupG 2 (consG (putS 8) (consG (putS 9) nilG))))
  (seqM (ifS (orM (bM (e2 neD (callM F_packed [] (consM (eV 8) (consM (eV 12) nilM))) (slM (eV 11) (prt (some (eV 12))) (prt (some (e2 addD (eV 12) (eV 9))))))) (bM (e2 (inTD w) (eV 8) (eV 5))))
  (retM (ret (.bl false)))
  (ret .nx))
  (tputM w (eV 5) (eV 8) (ret (.bl true)))))
  (ret .nx)))))
  (seqM (setM (callM F_law_deed [] (consM (eV 1) (consM (eV 12) (consM (ret (.int (199))) nilM)))) (putS 8))
  (seqM (setM (callM F_packed [] (consM (eV 8) (consM (eV 12) nilM))) (putS 10))
  (ifS (bM (e2 neD (callM F_unpacked [] (consM (e2 addD (e2 mul0D (tupM (consM (ret (.int (0))) nilM)) (eV 12)) (eV 10)) (consM (eV 12) nilM))) (tupM (consM (eV 8) (consM (cN lenD (consM (eV 10) nilM)) nilM)))))
  (retM (ret (.bl false)))
  (ret .nx)))))))))))
  (retM (ret (.bl true)))))
noncomputable def F_law (w : World) : Fun := defF 13 (B_law w)
set_option maxHeartbeats 64000000 in
theorem ok_law (T : Txt K mg) (Df : Defs K) (TB : LamX.TabB base mg (He.cT K ("law", none)).1 (He.cT K ("law", none)).2) {fd : FuncData} (F : FunD K "law" "law" (defArgs s_law) (defBody s_law) (defScope s_law) [] [] (He.fAd K ("law", none)) fd)
    (hF : ∀ ns : List Int, ns.length ≤ 63 → ∃ h', F_law w [.scr (ns.map D.int)] [] = .ok (.bl true) h') : FnOk P w K mg base L2.CX0 9 (He.fAd K ("law", none)) fd ["_law_script"] (spLaw K) := by
  refine law_ok (k := 8) (Tb := lawT K) F sc_law (fun H h => fun p hp => by rw [List.mem_singleton.mp hp]; exact LamX.TabS.nil h) (fun A outer s H E hr => ?_) hF
  exact (s_cons (s_set (ps_set (i := 1) sc_law.nd rfl (Or.inl rfl) (v_call (fun _ _ => .nil) (len_app (len_cons len_nil) rfl) (pe_fS (fn_law_start T Df) hr (by decide) (fun σ => passAt takes0 σ) (a_cons (v_var (pv 0)) a_nil)))))
  (s_cons (s_for (ps_for (passes_of rfl) rfl (i_rng1 (pi_range1 rfl T.b_range (a_cons v_int a_nil))) (g_name (pg_name (i := 2) sc_law.nd rfl (Or.inl rfl))) (s_cons (s_set (ps_set (i := 3) sc_law.nd rfl (Or.inl rfl) (v_frz (o_lst (a_cons (v_call (fun _ _ => .nil) (len_app (len_cons (len_cons len_nil)) rfl) (pe_fS (fn_law_drawn T Df) hr (by decide) (fun σ => passAt takes0 σ) (a_cons (v_var (pv 1)) (a_cons v_int a_nil)))) (a_cons (v_op op_sub s_sub (v_op opA_add s_add (v_op opA_mul s_mul (v_call (fun _ _ => .nil) (len_app (len_cons (len_cons len_nil)) rfl) (pe_fS (fn_law_drawn T Df) hr (by decide) (fun σ => passAt takes0 σ) (a_cons (v_var (pv 1)) (a_cons v_int a_nil)))) v_int) v_int) (v_call (fun _ _ => .nil) (len_app (len_cons (len_cons len_nil)) rfl) (pe_fS (fn_law_drawn T Df) hr (by decide) (fun σ => passAt takes0 σ) (a_cons (v_var (pv 1)) (a_cons v_int a_nil))))) a_nil))))))
  (s_cons (s_set (ps_set (i := 3) sc_law.nd rfl (Or.inl rfl) (v_ix ix_seq s_ix (v_var (pv 3)) (v_call (fun _ _ => .nil) (len_app (len_cons (len_cons len_nil)) rfl) (pe_fS (fn_law_drawn T Df) hr (by decide) (fun σ => passAt takes0 σ) (a_cons (v_var (pv 1)) (a_cons v_int a_nil)))) (fun _ _ => rfl))))
  (s_cons (s_set (ps_set (i := 4) sc_law.nd rfl (Or.inl rfl) (v_call (fun _ _ => .nil) (len_app (len_cons (len_cons len_nil)) rfl) (pe_fS (fn_law_drawn T Df) hr (by decide) (fun σ => passAt takes0 σ) (a_cons (v_var (pv 1)) (a_cons v_int a_nil))))))
  (s_cons (s_set (ps_set (i := 12) sc_law.nd rfl (Or.inr rfl) (v_call (fun _ _ => .nil) (len_app (len_cons (len_cons len_nil)) rfl) (pe_fS (fn_law_drawn T Df) hr (by decide) (fun σ => passAt takes0 σ) (a_cons (v_var (pv 1)) (a_cons v_int a_nil))))))
  (s_cons (s_set (ps_set (i := 5) sc_law.nd rfl (Or.inl rfl) (v_pub (o_tdnew pe_tdnew))))
  (s_cons (s_for (ps_for (passes_of rfl) rfl (i_rng2 (pi_range2 rfl T.b_range (a_cons (v_var (pv 3)) (a_cons (v_op opA_add s_add (v_var (pv 3)) v_int) a_nil)))) (g_name (pg_name (i := 6) sc_law.nd rfl (Or.inl rfl))) (s_cons (s_set (ps_set (i := 11) sc_law.nd rfl (Or.inr rfl) (v_op opA_add s_add (v_op op_mul0 s_mul0 (v_tup (a_cons v_int a_nil)) (v_var (pv 12))) (v_tup (a_cons (v_op op_mod s_mod (v_var (pv 6)) v_int) (a_cons (v_var (pv 4)) a_nil))))))
  (s_cons (s_set (ps_set (i := 7) sc_law.nd rfl (Or.inl rfl) (v_kind (pe_kind (k := 6) T Df TB rfl rfl hr (by decide) (LamX.lamS_by (sc := defScope s_law) (by decide +kernel)) rfl (fun _ _ _ _ _ => rfl) (fun _ _ _ _ _ _ _ hrL => (v_call (fun _ _ => .nil) (len_app (len_cons (len_cons len_nil)) rfl) (pe_fS (fn_unpacked T Df) hrL (by decide) (fun σ => passAt (takes_of rfl rfl rfl rfl) σ) (a_cons (v_var (pv 11)) (a_cons (v_var (pv 12)) a_nil)))))))))
  (s_one (s_if (v_tcmp (opA_ne hr.units) s_ne (v_var (pv 7)) v_str (nomark _)) (s_cons (s_asg (ps_asg (v_var (pv 7)) (g_tup (pg_tup rfl (gs_cons (pgs_cons (g_name (pg_name (i := 8) sc_law.nd rfl (Or.inl rfl))) (gs_cons (pgs_cons (g_name (pg_name (i := 9) sc_law.nd rfl (Or.inl rfl))) gs_nil))))))))
  (s_cons (s_if (PW.pt (w_or (v_tcmp (opA_ne hr.units) s_ne (v_call (fun _ _ => .nil) (len_app (len_cons (len_cons len_nil)) rfl) (pe_fS (fn_packed T Df) hr (by decide) (fun σ => passAt takes0 σ) (a_cons (v_var (pv 8)) (a_cons (v_var (pv 12)) a_nil)))) (v_sl rfl (v_var (pv 11)) (p_some (v_var (pv 12))) (p_some (v_op opA_add s_add (v_var (pv 12)) (v_var (pv 9))))) (nomark _)) (w_or1 (v_tb imTdIn (pt_cmp (pc_tdin (u65 hr) (v_var (pv 8)) (v_var (pv 5)))))))) (s_one (s_ret v_bl)) s_nil)
  (s_one (s_tdput (ps_tdput (u65 hr) (v_var (pv 5)) (v_var (pv 8)) v_bl rfl))))) s_nil))))))
  (s_cons (s_set (ps_set (i := 8) sc_law.nd rfl (Or.inl rfl) (v_call (fun _ _ => .nil) (len_app (len_cons (len_cons (len_cons len_nil))) rfl) (pe_fS (fn_law_deed T Df) hr (by decide) (fun σ => passAt takes0 σ) (a_cons (v_var (pv 1)) (a_cons (v_var (pv 12)) (a_cons v_int a_nil)))))))
  (s_cons (s_set (ps_set (i := 10) sc_law.nd rfl (Or.inl rfl) (v_call (fun _ _ => .nil) (len_app (len_cons (len_cons len_nil)) rfl) (pe_fS (fn_packed T Df) hr (by decide) (fun σ => passAt takes0 σ) (a_cons (v_var (pv 8)) (a_cons (v_var (pv 12)) a_nil))))))
  (s_one (s_if (v_tcmp (opA_ne hr.units) s_ne (v_call (fun _ _ => .nil) (len_app (len_cons (len_cons len_nil)) rfl) (pe_fS (fn_unpacked T Df) hr (by decide) (fun σ => passAt takes0 σ) (a_cons (v_op opA_add s_add (v_op op_mul0 s_mul0 (v_tup (a_cons v_int a_nil)) (v_var (pv 12))) (v_var (pv 10))) (a_cons (v_var (pv 12)) a_nil)))) (v_tup (a_cons (v_var (pv 8)) (a_cons (v_b s_len (pe_callB call_len rfl T.b_len (by decide +kernel) (a_cons (v_var (pv 10)) a_nil))) a_nil))) (nomark _)) (s_one (s_ret v_bl)) s_nil))))))))))))
  (s_one (s_ret v_bl))))
end
end Lk04


set_option autoImplicit false
set_option Elab.async false
set_option linter.all false
set_option maxRecDepth 100000
set_option maxHeartbeats 4000000
namespace Lk04
open PySem PySem.Spec PyProof.Rows L2 Bm Fv
abbrev partD (a m : Int) (s : Bool) : D := .obj "Part" ["at", "many", "signs"] [.int a, .int m, .bl s]
abbrev formD (c : Str) (op : Int) (ps : List D) : D := .obj c ["op", "parts"] [.int op, .lst ps]
theorem part_init (h : List Ob) (a m : Int) (s : Bool) : F_Part_init [.ref h.length, .int a, .int m, .bl s] (h ++ [.ins "Part" []]) = .ok .non (h ++ [.ins "Part" [("at", .int a), ("many", .int m), ("signs", .bl s)]]) := by
  simp [F_Part_init, B_Part_init]
theorem form_init (h : List Ob) (c : Str) (hc : c ∈ (["Form", "Near", "Far"] : List Str)) (op : Int) (ps : List D) : F_Form_init [.ref h.length, .int op, .lst ps] (h ++ [.ins c []]) = .ok .non (h ++ [.ins c [("op", .int op), ("parts", .lst ps)]]) := by
  have hc' : c = "Form" ∨ c = "Near" ∨ c = "Far" := by simpa using hc
  simp [F_Form_init, B_Form_init, hc']
@[simp] theorem mkP (a m : Int) (e : En) : dropM (makeM "Part" F_Part_init [(.bl false)] (consM (ret (.int a)) (consM (ret (.int m)) nilM))) e = .ok (partD a m false) e :=
  drop_make (ds := [.int a, .int m]) (fs := [("at", .int a), ("many", .int m), ("signs", .bl false)]) (by simp) (part_init e.h a m false) rfl
@[simp] theorem mkPK (a m : Int) (e : En) : dropM (makeK "Part" F_Part_init (consM (ret (.int a)) (consM (ret (.int m)) nilM)) (consM (ret (.bl true)) nilM)) e = .ok (partD a m true) e :=
  drop_makeK (ds := [.int a, .int m]) (es := [.bl true]) (fs := [("at", .int a), ("many", .int m), ("signs", .bl true)]) (by simp) (by simp) (part_init e.h a m true) rfl
theorem mkF {c : Str} (hc : c ∈ (["Form", "Near", "Far"] : List Str)) {op : Int} {ps : List D} {fa : M (List D)} {e : En} (qa : fa e = .ok ps e) (hl : ps.length ≤ 1000) (lo : lows 0 ps = true) :
    dropM (makeM c F_Form_init [] (consM (ret (.int op)) (consM (frzM (lstM fa)) nilM))) e = .ok (formD c op ps) e := by
  refine drop_make (ds := [.int op, .lst ps]) (fs := [("op", .int op), ("parts", .lst ps)]) (by simp [qa, hl]) (form_init e.h c hc op ps) ?_
  simp [lows, low, lo]
abbrev pH : D := partD 9 3 false
abbrev pM : D := partD 6 3 false
abbrev pS : D := partD 0 6 false
abbrev bρ (k : Nat) : List (Option D) := [some (.ref k), some pH, some pM, some pS]
abbrev bookKs : List Key := [.inr "plain", .inr "pair", .inr "plus", .inr "set", .inr "high", .inr "load", .inr "store", .inr "jump", .inr "far jump", .inr "call", .inr "far call"]
abbrev fPlain : D := formD "Form" 0 [pH, pM]
abbrev fPair : D := formD "Form" 1 [pH, pM, partD 3 3 false, partD 0 3 false]
abbrev fPlus : D := formD "Form" 2 [pH, pM, partD 0 6 true]
abbrev fSet : D := formD "Form" 3 [pH, partD 0 9 false]
abbrev fHigh : D := formD "Form" 4 [pH, partD 0 7 false]
abbrev fLoad : D := formD "Form" 5 [pH, pM, pS]
abbrev fStore : D := formD "Form" 6 [pH, pM, pS]
abbrev fJump : D := formD "Near" 7 [pH, partD 0 5 true]
abbrev fFarJ : D := formD "Far" 8 [pH]
abbrev fCall : D := formD "Near" 9 [partD 0 5 true]
abbrev fFarC : D := formD "Far" 10 []
abbrev bookFs : List D := [fPlain, fPair, fPlus, fSet, fHigh, fLoad, fStore, fJump, fFarJ, fCall, fFarC]
abbrev bookD : D := .obj "Book" ["forms"] [.dic bookKs bookFs]
section
variable (k : Nat) (h : List Ob)
theorem f_plain : dropM (makeM "Form" F_Form_init [] (consM (ret (.int (0))) (consM (frzM (lstM (consM (eV 1) (consM (eV 2) nilM)))) nilM))) ⟨bρ k, h⟩ = .ok fPlain ⟨bρ k, h⟩ := mkF (by decide) (by simp) (by decide) rfl
theorem f_pair : dropM (makeM "Form" F_Form_init [] (consM (ret (.int (1))) (consM (frzM (lstM (consM (eV 1) (consM (eV 2) (consM (dropM (makeM "Part" F_Part_init [(.bl false)] (consM (ret (.int (3))) (consM (ret (.int (3))) nilM)))) (consM (dropM (makeM "Part" F_Part_init [(.bl false)] (consM (ret (.int (0))) (consM (ret (.int (3))) nilM)))) nilM)))))) nilM))) ⟨bρ k, h⟩ = .ok fPair ⟨bρ k, h⟩ := mkF (by decide) (by simp) (by decide) rfl
theorem f_plus : dropM (makeM "Form" F_Form_init [] (consM (ret (.int (2))) (consM (frzM (lstM (consM (eV 1) (consM (eV 2) (consM (dropM (makeK "Part" F_Part_init (consM (ret (.int (0))) (consM (ret (.int (6))) nilM)) (consM (ret (.bl true)) nilM))) nilM))))) nilM))) ⟨bρ k, h⟩ = .ok fPlus ⟨bρ k, h⟩ := mkF (by decide) (by simp) (by decide) rfl
theorem f_set : dropM (makeM "Form" F_Form_init [] (consM (ret (.int (3))) (consM (frzM (lstM (consM (eV 1) (consM (dropM (makeM "Part" F_Part_init [(.bl false)] (consM (ret (.int (0))) (consM (ret (.int (9))) nilM)))) nilM)))) nilM))) ⟨bρ k, h⟩ = .ok fSet ⟨bρ k, h⟩ := mkF (by decide) (by simp) (by decide) rfl
theorem f_high : dropM (makeM "Form" F_Form_init [] (consM (ret (.int (4))) (consM (frzM (lstM (consM (eV 1) (consM (dropM (makeM "Part" F_Part_init [(.bl false)] (consM (ret (.int (0))) (consM (ret (.int (7))) nilM)))) nilM)))) nilM))) ⟨bρ k, h⟩ = .ok fHigh ⟨bρ k, h⟩ := mkF (by decide) (by simp) (by decide) rfl
theorem f_load : dropM (makeM "Form" F_Form_init [] (consM (ret (.int (5))) (consM (frzM (lstM (consM (eV 1) (consM (eV 2) (consM (eV 3) nilM))))) nilM))) ⟨bρ k, h⟩ = .ok fLoad ⟨bρ k, h⟩ := mkF (by decide) (by simp) (by decide) rfl
theorem f_store : dropM (makeM "Form" F_Form_init [] (consM (ret (.int (6))) (consM (frzM (lstM (consM (eV 1) (consM (eV 2) (consM (eV 3) nilM))))) nilM))) ⟨bρ k, h⟩ = .ok fStore ⟨bρ k, h⟩ := mkF (by decide) (by simp) (by decide) rfl
theorem f_jump : dropM (makeM "Near" F_Form_init [] (consM (ret (.int (7))) (consM (frzM (lstM (consM (eV 1) (consM (dropM (makeK "Part" F_Part_init (consM (ret (.int (0))) (consM (ret (.int (5))) nilM)) (consM (ret (.bl true)) nilM))) nilM)))) nilM))) ⟨bρ k, h⟩ = .ok fJump ⟨bρ k, h⟩ := mkF (by decide) (by simp) (by decide) rfl
theorem f_farj : dropM (makeM "Far" F_Form_init [] (consM (ret (.int (8))) (consM (frzM (lstM (consM (eV 1) nilM))) nilM))) ⟨bρ k, h⟩ = .ok fFarJ ⟨bρ k, h⟩ := mkF (by decide) (by simp) (by decide) rfl
theorem f_call : dropM (makeM "Near" F_Form_init [] (consM (ret (.int (9))) (consM (frzM (lstM (consM (dropM (makeK "Part" F_Part_init (consM (ret (.int (0))) (consM (ret (.int (5))) nilM)) (consM (ret (.bl true)) nilM))) nilM))) nilM))) ⟨bρ k, h⟩ = .ok fCall ⟨bρ k, h⟩ := mkF (by decide) (by simp) (by decide) rfl
theorem f_farc : dropM (makeM "Far" F_Form_init [] (consM (ret (.int (10))) (consM (frzM (lstM nilM)) nilM))) ⟨bρ k, h⟩ = .ok fFarC ⟨bρ k, h⟩ := mkF (by decide) (by simp) (by decide) rfl
end
theorem book_init (h : List Ob) : F_Book_init [.ref h.length] (h ++ [.ins "Book" []]) = .ok .non (h ++ [.ins "Book" [("forms", .ref (h.length + 1))], .dic bookKs bookFs]) := by
  simp [F_Book_init, B_Book_init, dispM, pairsM, f_plain, f_pair, f_plus, f_set, f_high, f_load, f_store, f_jump, f_farj, f_call, f_farc, keysD, keyD]
theorem mk_book (e : En) : dropM (makeM "Book" F_Book_init [] nilM) e = .ok bookD e := by
  refine drop_ok (t := [.ins "Book" [("forms", .ref (e.h.length + 1))], .dic bookKs bookFs]) (d := .ref e.h.length) ?_ ?_
  · simp [makeM, book_init]
  · show fzW _ _ _ _ = _
    simp only [fzW, mapO, Nat.lt_irrefl, if_false, at_new0, List.map]
    have : fzN (e.h ++ [.ins "Book" [("forms", .ref (e.h.length + 1))], .dic bookKs bookFs]) e.h.length 4 (.ref (e.h.length + 1)) = some (.dic bookKs bookFs) := by
      show fzW _ _ _ _ = _
      simp only [fzW, at_new1]
      rw [if_neg (by omega)]
      rw [mapO_low (lows_zero (by decide))]
      rfl
    rw [this]
    rfl
end Lk04


set_option autoImplicit false
set_option Elab.async false
set_option linter.all false
set_option maxRecDepth 100000
set_option maxHeartbeats 4000000
namespace Lk04
open PySem PySem.Spec PyProof.Rows L2 Bm Fv
/-- what stands in a part -/
def takenI (a m : Nat) (s : Bool) (w : Int) : Int := if s then (if w / 2 ^ a % 2 ^ m < 2 ^ (m - 1) then w / 2 ^ a % 2 ^ m else w / 2 ^ a % 2 ^ m - 2 ^ m) else w / 2 ^ a % 2 ^ m
theorem field_ok (w : Int) (a m : Nat) (h : List Ob) (hw : 0 ≤ w) (hm : m ≤ 16) : F_field [.int w, .int a, .int m] h = .ok (.int (w / 2 ^ a % 2 ^ m)) h := by
  have e := Bits.bitAnd_mask (x := w / 2 ^ a) m (Int.ediv_nonneg hw (Int.le_of_lt (Int.pow_pos (by decide))))
  have h1 : (m : Int) ≤ 1000000 := by omega
  simp [F_field, B_field, h1, e]
theorem sgn6 : ∀ n : Nat, n < 64 → Builtin.bitAnd (n : Int) 31 - Builtin.bitAnd (n : Int) 32 = if (n : Int) < 32 then (n : Int) else (n : Int) - 64 := by decide +kernel
theorem sgn5 : ∀ n : Nat, n < 32 → Builtin.bitAnd (n : Int) 15 - Builtin.bitAnd (n : Int) 16 = if (n : Int) < 16 then (n : Int) else (n : Int) - 32 := by decide +kernel
theorem signed6 (n : Int) (h0 : 0 ≤ n) (h1 : n < 64) (h : List Ob) : F_signed [.int n, .int 6] h = .ok (.int (if n < 32 then n else n - 64)) h := by
  have := sgn6 n.toNat (by omega)
  rw [Int.toNat_of_nonneg h0] at this
  simp [F_signed, B_signed, this]
theorem signed5 (n : Int) (h0 : 0 ≤ n) (h1 : n < 32) (h : List Ob) : F_signed [.int n, .int 5] h = .ok (.int (if n < 16 then n else n - 32)) h := by
  have := sgn5 n.toNat (by omega)
  rw [Int.toNat_of_nonneg h0] at this
  simp [F_signed, B_signed, this]
theorem taken_u (w : Int) (a m : Nat) (h : List Ob) (hw : 0 ≤ w) (hm : m ≤ 16) : F_Part_taken [partD a m false, .int w] h = .ok (.int (takenI a m false w)) h := by
  have := field_ok w a m h hw hm
  simp [F_Part_taken, B_Part_taken, this, takenI]
theorem taken_6 (w : Int) (h : List Ob) (hw : 0 ≤ w) : F_Part_taken [partD 0 6 true, .int w] h = .ok (.int (takenI 0 6 true w)) h := by
  have := field_ok w 0 6 h hw (by decide)
  have e := signed6 (w % 64) (Int.emod_nonneg _ (by decide)) (Int.emod_lt_of_pos _ (by decide)) h
  simp at this
  simp [F_Part_taken, B_Part_taken, this, takenI, e]
theorem taken_5 (w : Int) (h : List Ob) (hw : 0 ≤ w) : F_Part_taken [partD 0 5 true, .int w] h = .ok (.int (takenI 0 5 true w)) h := by
  have := field_ok w 0 5 h hw (by decide)
  have e := signed5 (w % 32) (Int.emod_nonneg _ (by decide)) (Int.emod_lt_of_pos _ (by decide)) h
  simp at this
  simp [F_Part_taken, B_Part_taken, this, takenI, e]
end Lk04


set_option autoImplicit false
set_option Elab.async false
set_option linter.all false
set_option maxRecDepth 100000
set_option maxHeartbeats 4000000
namespace Lk04
open PySem PySem.Spec PyProof.Rows L2 Bm Fv
theorem bits_ok (a m : Int) (s : Bool) (x : Int) (h : List Ob) (h1 : 0 ≤ a) (h2 : a ≤ 16) (h3 : 1 ≤ m) (h4 : m ≤ 16) : F_Part_bits [partD a m s, .int x] h = .ok (.int (Builtin.bitAnd x (2 ^ m.toNat - 1) * 2 ^ a.toNat)) h := by
  have e1 : a ≤ 1000000 := by omega
  have e2 : m ≤ 1000000 := by omega
  have e3 : 0 ≤ m := by omega
  have e0 : (0 : Int) < 2 ^ m.toNat := Int.pow_pos (by decide)
  have e4 := bitAnd_range x (y := 2 ^ m.toNat - 1) (by omega)
  have e5 : (2 : Int) ^ m.toNat ≤ 2 ^ 16 := by
    have : m.toNat ≤ 16 := by omega
    exact_mod_cast Nat.pow_le_pow_right (by decide) this
  have e6 : (Builtin.bitAnd x (2 ^ m.toNat - 1)).natAbs < 18446744073709551616 := by omega
  simp [F_Part_bits, B_Part_bits, e1, e2, e3, h1, e6]
theorem or_add {a b : Int} (k : Nat) (ha : 0 ≤ a) (hd : a % 2 ^ k = 0) (hb0 : 0 ≤ b) (hb1 : b < 2 ^ k) : Builtin.bitOr a b = a + b := by
  have e : a = a / 2 ^ k * 2 ^ k := (Int.ediv_mul_cancel_of_emod_eq_zero hd).symm
  rw [e, or_low (Int.ediv_nonneg ha (Int.le_of_lt (Int.pow_pos (by decide)))) hb0 hb1]
theorem bH {x : Int} (hx0 : 0 ≤ x) (hx1 : x < 8) (h : List Ob) : F_Part_bits [pH, .int x] h = .ok (.int (x * 512)) h := by
  rw [bits_ok 9 3 false x h (by decide) (by decide) (by decide) (by decide)]
  rw [show (2 : Int) ^ (3 : Int).toNat - 1 = 7 from rfl, bitAnd_m3, Int.emod_eq_of_lt hx0 hx1]
  rfl
theorem bM' {x : Int} (hx0 : 0 ≤ x) (hx1 : x < 8) (h : List Ob) : F_Part_bits [pM, .int x] h = .ok (.int (x * 64)) h := by
  rw [bits_ok 6 3 false x h (by decide) (by decide) (by decide) (by decide)]
  rw [show (2 : Int) ^ (3 : Int).toNat - 1 = 7 from rfl, bitAnd_m3, Int.emod_eq_of_lt hx0 hx1]
  rfl
theorem b33 {x : Int} (hx0 : 0 ≤ x) (hx1 : x < 8) (h : List Ob) : F_Part_bits [partD 3 3 false, .int x] h = .ok (.int (x * 8)) h := by
  rw [bits_ok 3 3 false x h (by decide) (by decide) (by decide) (by decide)]
  rw [show (2 : Int) ^ (3 : Int).toNat - 1 = 7 from rfl, bitAnd_m3, Int.emod_eq_of_lt hx0 hx1]
  rfl
theorem b0 {m : Int} {s : Bool} {x y : Int} (h1 : 1 ≤ m) (h2 : m ≤ 9) (ex : Builtin.bitAnd x (2 ^ m.toNat - 1) = y) (h : List Ob) : F_Part_bits [partD 0 m s, .int x] h = .ok (.int y) h := by
  rw [bits_ok 0 m s x h (by decide) (by decide) h1 (by omega), ex]
  simp
section
variable (h : List Ob) {c : Str} {nd : D}
theorem cls3 (hc : c ∈ (["Form", "Near", "Far"] : List Str)) : c = "Form" ∨ c = "Near" ∨ c = "Far" := by simpa using hc
theorem ow2 (hc : c ∈ (["Form", "Near", "Far"] : List Str)) {op x y : Int} {s : Bool} {m : Int} {hy : Int} (hn : lsqOf h nd = some [.int x, .int y]) (h1 : 1 ≤ m) (h2 : m ≤ 9) (ho : 0 ≤ op) (ho1 : op < 16) (hx0 : 0 ≤ x) (hx1 : x < 8) (ey : Builtin.bitAnd y (2 ^ m.toNat - 1) = hy) (hy0 : 0 ≤ hy) (hy1 : hy < 512) :
    F_Form_one_word [formD c op [pH, partD 0 m s], nd] h = .ok (.int (op * 4096 + x * 512 + hy)) h := by
  have hc' := cls3 hc
  have o1 : Builtin.bitOr (op * 4096) (x * 512) = op * 4096 + x * 512 := or_add 12 (by omega) (by omega) (by omega) (by omega)
  have o2 : Builtin.bitOr (op * 4096 + x * 512) hy = op * 4096 + x * 512 + hy := or_add 9 (by omega) (by omega) (by omega) (by omega)
  have no : op.natAbs < 18446744073709551616 := by omega
  simp [F_Form_one_word, B_Form_one_word, hc', hn, bH hx0 hx1, b0 h1 h2 ey, o1, o2, no]
theorem ow3 {op x y z : Int} {s : Bool} (hn : lsqOf h nd = some [.int x, .int y, .int z]) (ho : 0 ≤ op) (ho1 : op < 16) (hx0 : 0 ≤ x) (hx1 : x < 8) (hy0 : 0 ≤ y) (hy1 : y < 8) :
    F_Form_one_word [formD "Form" op [pH, pM, partD 0 6 s], nd] h = .ok (.int (op * 4096 + x * 512 + y * 64 + z % 64)) h := by
  have b3 := fun h => b0 (s := s) (m := 6) (x := z) (by decide) (by decide) (bitAnd_m6 z) h
  have o1 : Builtin.bitOr (op * 4096) (x * 512) = op * 4096 + x * 512 := or_add 12 (by omega) (by omega) (by omega) (by omega)
  have o2 : Builtin.bitOr (op * 4096 + x * 512) (y * 64) = op * 4096 + x * 512 + y * 64 := or_add 9 (by omega) (by omega) (by omega) (by omega)
  have o3 : Builtin.bitOr (op * 4096 + x * 512 + y * 64) (z % 64) = op * 4096 + x * 512 + y * 64 + z % 64 := or_add 6 (by omega) (by omega) (by omega) (by omega)
  have no : op.natAbs < 18446744073709551616 := by omega
  simp [F_Form_one_word, B_Form_one_word, hn, bH hx0 hx1, bM' hy0 hy1, b3, o1, o2, o3, no]
theorem ow_plain {x y : Int} (hn : lsqOf h nd = some [.int x, .int y]) (hx0 : 0 ≤ x) (hx1 : x < 8) (hy0 : 0 ≤ y) (hy1 : y < 8) :
    F_Form_one_word [formD "Form" 0 [pH, pM], nd] h = .ok (.int (x * 512 + y * 64)) h := by
  have o1 : Builtin.bitOr 0 (x * 512) = x * 512 := by
    rw [or_add 12 (by omega) (by omega) (by omega) (by omega)]
    omega
  have o2 : Builtin.bitOr (x * 512) (y * 64) = x * 512 + y * 64 := or_add 9 (by omega) (by omega) (by omega) (by omega)
  simp [F_Form_one_word, B_Form_one_word, hn, bH hx0 hx1, bM' hy0 hy1, o1, o2]
theorem ow_pair {x y z t : Int} (hn : lsqOf h nd = some [.int x, .int y, .int z, .int t]) (hx0 : 0 ≤ x) (hx1 : x < 8) (hy0 : 0 ≤ y) (hy1 : y < 8) (hz0 : 0 ≤ z) (hz1 : z < 8) (ht0 : 0 ≤ t) (ht1 : t < 8) :
    F_Form_one_word [formD "Form" 1 [pH, pM, partD 3 3 false, partD 0 3 false], nd] h = .ok (.int (4096 + x * 512 + y * 64 + z * 8 + t)) h := by
  have b4 := fun h => b0 (s := false) (m := 3) (x := t) (by decide) (by decide) ((bitAnd_m3 t).trans (Int.emod_eq_of_lt ht0 ht1)) h
  have o1 : Builtin.bitOr 4096 (x * 512) = 4096 + x * 512 := or_add 12 (by omega) (by omega) (by omega) (by omega)
  have o2 : Builtin.bitOr (4096 + x * 512) (y * 64) = 4096 + x * 512 + y * 64 := or_add 9 (by omega) (by omega) (by omega) (by omega)
  have o3 : Builtin.bitOr (4096 + x * 512 + y * 64) (z * 8) = 4096 + x * 512 + y * 64 + z * 8 := or_add 6 (by omega) (by omega) (by omega) (by omega)
  have o4 : Builtin.bitOr (4096 + x * 512 + y * 64 + z * 8) t = 4096 + x * 512 + y * 64 + z * 8 + t := or_add 3 (by omega) (by omega) (by omega) (by omega)
  simp [F_Form_one_word, B_Form_one_word, hn, bH hx0 hx1, bM' hy0 hy1, b33 hz0 hz1, b4, o1, o2, o3, o4]
theorem ow_farj {x : Int} (hn : lsqOf h nd = some [.int x]) (hx0 : 0 ≤ x) (hx1 : x < 8) : F_Form_one_word [formD "Far" 8 [pH], nd] h = .ok (.int (32768 + x * 512)) h := by
  have o1 : Builtin.bitOr 32768 (x * 512) = 32768 + x * 512 := or_add 12 (by omega) (by omega) (by omega) (by omega)
  simp [F_Form_one_word, B_Form_one_word, hn, bH hx0 hx1, o1]
theorem ow_farc (hn : lsqOf h nd = some []) : F_Form_one_word [formD "Far" 10 [], nd] h = .ok (.int 40960) h := by
  simp [F_Form_one_word, B_Form_one_word, hn]
theorem ow_call {x : Int} (hn : lsqOf h nd = some [.int x]) : F_Form_one_word [formD "Near" 9 [partD 0 5 true], nd] h = .ok (.int (36864 + x % 32)) h := by
  have b1 := fun h => b0 (s := true) (m := 5) (x := x) (by decide) (by decide) (bitAnd_m5 x) h
  have o1 : Builtin.bitOr 36864 (x % 32) = 36864 + x % 32 := or_add 12 (by omega) (by omega) (by omega) (by omega)
  simp [F_Form_one_word, B_Form_one_word, hn, b1, o1]
end
/-- the numbers of a word -/
theorem numbers_ok {c : Str} (hc : c ∈ (["Form", "Near", "Far"] : List Str)) {op w one : Int} {ps : List D} {g : D → D} (h : List Ob) (hl : ps.length ≤ 1000) (hg : ∀ d ∈ ps, ∃ a m s, d = partD a m s ∧ ∀ h', F_Part_taken [d, .int w] h' = .ok (g d) h')
    (ho : F_Form_one_word [formD c op ps, .ref h.length] (h ++ [.lst (ps.map g)]) = .ok (.int one) (h ++ [.lst (ps.map g)])) :
    F_Form_numbers [formD c op ps, .int w] h = if one = w then .ok (.ref h.length) (h ++ [.lst (ps.map g)]) else .ex "NoDeed" [] (h ++ [.lst (ps.map g)]) := by
  have hc' := cls3 hc
  have q := lc_ok (t := .one 3) (vs := [3]) (fi := seqI (fldM ["Form", "Near", "Far"] "parts" (eV 0))) (tt := ret true) (f := methM ["Part"] "taken" (fun _ => F_Part_taken) [] (eV 3) (consM (eV 1) nilM))
    (e := ⟨[some (formD c op ps), some (.int w), none, none], h⟩) (ds := ps) (g := g) (by simp [hc', stayOf]) (by omega) (fun d hd => by
      obtain ⟨a, m, s, rfl, h1⟩ := hg d hd
      refine ⟨[some (formD c op ps), some (.int w), none, some (partD a m s)], by simp [Tg.put, wipeD], fun h' => ⟨rfl, ?_⟩⟩
      have := h1 h'
      simp only [partD] at this
      simp [this])
  by_cases hw : one = w
  · simp [F_Form_numbers, B_Form_numbers, q, hc', ho, hw]
  · simp [F_Form_numbers, B_Form_numbers, q, hc', ho, hw]
end Lk04


set_option autoImplicit false
set_option Elab.async false
set_option linter.all false
set_option maxRecDepth 100000
set_option maxHeartbeats 4000000
namespace Lk04
open PySem PySem.Spec PyProof.Rows L2 Bm Fv
section
variable {w : Int} (hw : 0 ≤ w) (h : List Ob)
include hw
theorem tkU (a m : Nat) (hm : m ≤ 16) : ∀ h', F_Part_taken [partD a m false, .int w] h' = .ok (.int (w / 2 ^ a % 2 ^ m)) h' := fun h' => by
  have := taken_u w a m h' hw hm
  simpa [takenI] using this
theorem tk6 : ∀ h', F_Part_taken [partD 0 6 true, .int w] h' = .ok (.int (if w % 64 < 32 then w % 64 else w % 64 - 64)) h' := fun h' => by
  have := taken_6 w h' hw
  simpa [takenI] using this
theorem tk5 : ∀ h', F_Part_taken [partD 0 5 true, .int w] h' = .ok (.int (if w % 32 < 16 then w % 32 else w % 32 - 32)) h' := fun h' => by
  have := taken_5 w h' hw
  simpa [takenI] using this
/-- what is taken, by the part -/
def tkD (w : Int) : D → D
  | .obj _ _ [.int a, .int m, .bl s] => .int (takenI a.toNat m.toNat s w)
  | _ => .non
theorem tkD_ok {d : D} (hd : d ∈ [partD 9 3 false, partD 6 3 false, partD 3 3 false, partD 0 3 false, partD 0 6 false, partD 0 6 true, partD 0 9 false, partD 0 7 false, partD 0 5 true]) : ∃ a m s, d = partD a m s ∧ ∀ h', F_Part_taken [d, .int w] h' = .ok (tkD w d) h' := by
  simp only [List.mem_cons, List.not_mem_nil, or_false] at hd
  rcases hd with rfl | rfl | rfl | rfl | rfl | rfl | rfl | rfl | rfl
  · exact ⟨_, _, _, rfl, fun h' => taken_u w 9 3 h' hw (by decide)⟩
  · exact ⟨_, _, _, rfl, fun h' => taken_u w 6 3 h' hw (by decide)⟩
  · exact ⟨_, _, _, rfl, fun h' => taken_u w 3 3 h' hw (by decide)⟩
  · exact ⟨_, _, _, rfl, fun h' => taken_u w 0 3 h' hw (by decide)⟩
  · exact ⟨_, _, _, rfl, fun h' => taken_u w 0 6 h' hw (by decide)⟩
  · exact ⟨_, _, _, rfl, fun h' => taken_6 w h' hw⟩
  · exact ⟨_, _, _, rfl, fun h' => taken_u w 0 9 h' hw (by decide)⟩
  · exact ⟨_, _, _, rfl, fun h' => taken_u w 0 7 h' hw (by decide)⟩
  · exact ⟨_, _, _, rfl, fun h' => taken_5 w h' hw⟩
end
theorem tk_u {w : Int} (a m : Nat) : tkD w (partD a m false) = .int (w / 2 ^ a % 2 ^ m) := by simp [tkD, takenI]
theorem tk_6 {w : Int} : tkD w (partD 0 6 true) = .int (if w % 64 < 32 then w % 64 else w % 64 - 64) := by simp [tkD, takenI]
theorem tk_5 {w : Int} : tkD w (partD 0 5 true) = .int (if w % 32 < 16 then w % 32 else w % 32 - 32) := by simp [tkD, takenI]
section
variable {w : Int} (h : List Ob)
theorem nm_plain (h0 : 0 ≤ w) (h1 : w < 4096) : F_Form_numbers [formD "Form" 0 [pH, pM], .int w] h = if w % 64 = 0 then .ok (.ref h.length) (h ++ [.lst [.int (w / 512), .int (w / 64 % 8)]]) else .ex "NoDeed" [] (h ++ [.lst [.int (w / 512), .int (w / 64 % 8)]]) := by
  have e1 : tkD w pH = .int (w / 512) := by rw [show pH = partD (9 : Nat) (3 : Nat) false from rfl, tk_u]; congr 1; omega
  have e2 : tkD w pM = .int (w / 64 % 8) := by rw [show pM = partD (6 : Nat) (3 : Nat) false from rfl, tk_u]; rfl
  have q := numbers_ok (c := "Form") (by decide) (op := 0) (w := w) (one := w / 512 * 512 + w / 64 % 8 * 64) (ps := [pH, pM]) (g := tkD w) h (by simp) (fun d hd => tkD_ok h0 (by simp at hd ⊢; rcases hd with rfl | rfl <;> simp)) (by
    refine ow_plain _ ?_ ?_ ?_ ?_ ?_
    · simp [e1, e2]
    all_goals omega)
  simp only [List.map, e1, e2] at q
  rw [q]
  by_cases c : w % 64 = 0
  · rw [if_pos c, if_pos (by omega)]
  · rw [if_neg c, if_neg (by omega)]
theorem nm_pair (h0 : 4096 ≤ w) (h1 : w < 8192) : F_Form_numbers [formD "Form" 1 [pH, pM, partD 3 3 false, partD 0 3 false], .int w] h = .ok (.ref h.length) (h ++ [.lst [.int (w / 512 % 8), .int (w / 64 % 8), .int (w / 8 % 8), .int (w % 8)]]) := by
  have e0 : tkD w (pH) = .int (w / 512 % 8) := by rw [show pH = partD (9 : Nat) (3 : Nat) false from rfl, tk_u]; rfl
  have e1 : tkD w (pM) = .int (w / 64 % 8) := by rw [show pM = partD (6 : Nat) (3 : Nat) false from rfl, tk_u]; rfl
  have e2 : tkD w (partD 3 3 false) = .int (w / 8 % 8) := by rw [show partD 3 3 false = partD (3 : Nat) (3 : Nat) false from rfl, tk_u]; rfl
  have e3 : tkD w (partD 0 3 false) = .int (w % 8) := by rw [show partD 0 3 false = partD (0 : Nat) (3 : Nat) false from rfl, tk_u]; simp
  have q := numbers_ok (c := "Form") (by decide) (op := 1) (w := w) (one := 4096 + w / 512 % 8 * 512 + w / 64 % 8 * 64 + w / 8 % 8 * 8 + w % 8) (ps := [pH, pM, partD 3 3 false, partD 0 3 false]) (g := tkD w) h (by simp) (fun d hd => tkD_ok (by omega) (by simp at hd ⊢; rcases hd with rfl | rfl | rfl | rfl <;> simp)) (by
    refine ow_pair _ ?_ ?_ ?_ ?_ ?_ ?_ ?_ ?_ ?_
    · simp [e0, e1, e2, e3]
    all_goals first | decide | omega | (split <;> omega))
  simp only [List.map, e0, e1, e2, e3] at q
  rw [q]
  rw [if_pos (by first | omega | (split <;> omega))]
theorem nm_plus (h0 : 8192 ≤ w) (h1 : w < 12288) : F_Form_numbers [formD "Form" 2 [pH, pM, partD 0 6 true], .int w] h = .ok (.ref h.length) (h ++ [.lst [.int (w / 512 % 8), .int (w / 64 % 8), .int ((if w % 64 < 32 then w % 64 else w % 64 - 64))]]) := by
  have e0 : tkD w (pH) = .int (w / 512 % 8) := by rw [show pH = partD (9 : Nat) (3 : Nat) false from rfl, tk_u]; rfl
  have e1 : tkD w (pM) = .int (w / 64 % 8) := by rw [show pM = partD (6 : Nat) (3 : Nat) false from rfl, tk_u]; rfl
  have e2 : tkD w (partD 0 6 true) = .int ((if w % 64 < 32 then w % 64 else w % 64 - 64)) := tk_6
  have q := numbers_ok (c := "Form") (by decide) (op := 2) (w := w) (one := 2 * 4096 + w / 512 % 8 * 512 + w / 64 % 8 * 64 + (if w % 64 < 32 then w % 64 else w % 64 - 64) % 64) (ps := [pH, pM, partD 0 6 true]) (g := tkD w) h (by simp) (fun d hd => tkD_ok (by omega) (by simp at hd ⊢; rcases hd with rfl | rfl | rfl <;> simp)) (by
    refine ow3 _ ?_ ?_ ?_ ?_ ?_ ?_ ?_
    · simp [e0, e1, e2]
    all_goals first | decide | omega | (split <;> omega))
  simp only [List.map, e0, e1, e2] at q
  rw [q]
  rw [if_pos (by first | omega | (split <;> omega))]
theorem nm_set (h0 : 12288 ≤ w) (h1 : w < 16384) : F_Form_numbers [formD "Form" 3 [pH, partD 0 9 false], .int w] h = .ok (.ref h.length) (h ++ [.lst [.int (w / 512 % 8), .int (w % 512)]]) := by
  have e0 : tkD w (pH) = .int (w / 512 % 8) := by rw [show pH = partD (9 : Nat) (3 : Nat) false from rfl, tk_u]; rfl
  have e1 : tkD w (partD 0 9 false) = .int (w % 512) := by rw [show partD 0 9 false = partD (0 : Nat) (9 : Nat) false from rfl, tk_u]; simp
  have q := numbers_ok (c := "Form") (by decide) (op := 3) (w := w) (one := 3 * 4096 + w / 512 % 8 * 512 + w % 512) (ps := [pH, partD 0 9 false]) (g := tkD w) h (by simp) (fun d hd => tkD_ok (by omega) (by simp at hd ⊢; rcases hd with rfl | rfl <;> simp)) (by
    refine ow2 (y := w % 512) _ (by decide) ?_ (by decide) (by decide) (by decide) (by decide) ?_ ?_ ((Bits.bitAnd_mask 9 ?_).trans ?_) ?_ ?_
    · simp [e0, e1]
    all_goals first | decide | omega | (split <;> omega))
  simp only [List.map, e0, e1] at q
  rw [q]
  rw [if_pos (by first | omega | (split <;> omega))]
theorem nm_high (h0 : 16384 ≤ w) (h1 : w < 20480) : F_Form_numbers [formD "Form" 4 [pH, partD 0 7 false], .int w] h = if w % 512 < 128 then .ok (.ref h.length) (h ++ [.lst [.int (w / 512 % 8), .int (w % 128)]]) else .ex "NoDeed" [] (h ++ [.lst [.int (w / 512 % 8), .int (w % 128)]]) := by
  have e0 : tkD w (pH) = .int (w / 512 % 8) := by rw [show pH = partD (9 : Nat) (3 : Nat) false from rfl, tk_u]; rfl
  have e1 : tkD w (partD 0 7 false) = .int (w % 128) := by rw [show partD 0 7 false = partD (0 : Nat) (7 : Nat) false from rfl, tk_u]; simp
  have q := numbers_ok (c := "Form") (by decide) (op := 4) (w := w) (one := 4 * 4096 + w / 512 % 8 * 512 + w % 128) (ps := [pH, partD 0 7 false]) (g := tkD w) h (by simp) (fun d hd => tkD_ok (by omega) (by simp at hd ⊢; rcases hd with rfl | rfl <;> simp)) (by
    refine ow2 (y := w % 128) _ (by decide) ?_ (by decide) (by decide) (by decide) (by decide) ?_ ?_ ((bitAnd_m7 _).trans ?_) ?_ ?_
    · simp [e0, e1]
    all_goals first | decide | omega | (split <;> omega))
  simp only [List.map, e0, e1] at q
  rw [q]
  by_cases c : w % 512 < 128
  · rw [if_pos c, if_pos (by first | omega | (split <;> omega))]
  · rw [if_neg c, if_neg (by first | omega | (split <;> omega))]
theorem nm_load (h0 : 20480 ≤ w) (h1 : w < 24576) : F_Form_numbers [formD "Form" 5 [pH, pM, partD 0 6 false], .int w] h = .ok (.ref h.length) (h ++ [.lst [.int (w / 512 % 8), .int (w / 64 % 8), .int (w % 64)]]) := by
  have e0 : tkD w (pH) = .int (w / 512 % 8) := by rw [show pH = partD (9 : Nat) (3 : Nat) false from rfl, tk_u]; rfl
  have e1 : tkD w (pM) = .int (w / 64 % 8) := by rw [show pM = partD (6 : Nat) (3 : Nat) false from rfl, tk_u]; rfl
  have e2 : tkD w (partD 0 6 false) = .int (w % 64) := by rw [show partD 0 6 false = partD (0 : Nat) (6 : Nat) false from rfl, tk_u]; simp
  have q := numbers_ok (c := "Form") (by decide) (op := 5) (w := w) (one := 5 * 4096 + w / 512 % 8 * 512 + w / 64 % 8 * 64 + w % 64 % 64) (ps := [pH, pM, partD 0 6 false]) (g := tkD w) h (by simp) (fun d hd => tkD_ok (by omega) (by simp at hd ⊢; rcases hd with rfl | rfl | rfl <;> simp)) (by
    refine ow3 _ ?_ ?_ ?_ ?_ ?_ ?_ ?_
    · simp [e0, e1, e2]
    all_goals first | decide | omega | (split <;> omega))
  simp only [List.map, e0, e1, e2] at q
  rw [q]
  rw [if_pos (by first | omega | (split <;> omega))]
theorem nm_store (h0 : 24576 ≤ w) (h1 : w < 28672) : F_Form_numbers [formD "Form" 6 [pH, pM, partD 0 6 false], .int w] h = .ok (.ref h.length) (h ++ [.lst [.int (w / 512 % 8), .int (w / 64 % 8), .int (w % 64)]]) := by
  have e0 : tkD w (pH) = .int (w / 512 % 8) := by rw [show pH = partD (9 : Nat) (3 : Nat) false from rfl, tk_u]; rfl
  have e1 : tkD w (pM) = .int (w / 64 % 8) := by rw [show pM = partD (6 : Nat) (3 : Nat) false from rfl, tk_u]; rfl
  have e2 : tkD w (partD 0 6 false) = .int (w % 64) := by rw [show partD 0 6 false = partD (0 : Nat) (6 : Nat) false from rfl, tk_u]; simp
  have q := numbers_ok (c := "Form") (by decide) (op := 6) (w := w) (one := 6 * 4096 + w / 512 % 8 * 512 + w / 64 % 8 * 64 + w % 64 % 64) (ps := [pH, pM, partD 0 6 false]) (g := tkD w) h (by simp) (fun d hd => tkD_ok (by omega) (by simp at hd ⊢; rcases hd with rfl | rfl | rfl <;> simp)) (by
    refine ow3 _ ?_ ?_ ?_ ?_ ?_ ?_ ?_
    · simp [e0, e1, e2]
    all_goals first | decide | omega | (split <;> omega))
  simp only [List.map, e0, e1, e2] at q
  rw [q]
  rw [if_pos (by first | omega | (split <;> omega))]
theorem nm_jump (h0 : 28672 ≤ w) (h1 : w < 32768) : F_Form_numbers [formD "Near" 7 [pH, partD 0 5 true], .int w] h = if w % 512 < 32 then .ok (.ref h.length) (h ++ [.lst [.int (w / 512 % 8), .int ((if w % 32 < 16 then w % 32 else w % 32 - 32))]]) else .ex "NoDeed" [] (h ++ [.lst [.int (w / 512 % 8), .int ((if w % 32 < 16 then w % 32 else w % 32 - 32))]]) := by
  have e0 : tkD w (pH) = .int (w / 512 % 8) := by rw [show pH = partD (9 : Nat) (3 : Nat) false from rfl, tk_u]; rfl
  have e1 : tkD w (partD 0 5 true) = .int ((if w % 32 < 16 then w % 32 else w % 32 - 32)) := tk_5
  have q := numbers_ok (c := "Near") (by decide) (op := 7) (w := w) (one := 7 * 4096 + w / 512 % 8 * 512 + w % 32) (ps := [pH, partD 0 5 true]) (g := tkD w) h (by simp) (fun d hd => tkD_ok (by omega) (by simp at hd ⊢; rcases hd with rfl | rfl <;> simp)) (by
    refine ow2 (y := (if w % 32 < 16 then w % 32 else w % 32 - 32)) _ (by decide) ?_ (by decide) (by decide) (by decide) (by decide) ?_ ?_ ((bitAnd_m5 _).trans ?_) ?_ ?_
    · simp [e0, e1]
    all_goals first | decide | omega | (split <;> omega))
  simp only [List.map, e0, e1] at q
  rw [q]
  by_cases c : w % 512 < 32
  · rw [if_pos c, if_pos (by first | omega | (split <;> omega))]
  · rw [if_neg c, if_neg (by first | omega | (split <;> omega))]
theorem nm_farj (h0 : 32768 ≤ w) (h1 : w < 36864) : F_Form_numbers [formD "Far" 8 [pH], .int w] h = if w % 512 = 0 then .ok (.ref h.length) (h ++ [.lst [.int (w / 512 % 8)]]) else .ex "NoDeed" [] (h ++ [.lst [.int (w / 512 % 8)]]) := by
  have e0 : tkD w (pH) = .int (w / 512 % 8) := by rw [show pH = partD (9 : Nat) (3 : Nat) false from rfl, tk_u]; rfl
  have q := numbers_ok (c := "Far") (by decide) (op := 8) (w := w) (one := 32768 + w / 512 % 8 * 512) (ps := [pH]) (g := tkD w) h (by simp) (fun d hd => tkD_ok (by omega) (by simp at hd ⊢; subst hd; simp)) (by
    refine ow_farj _ ?_ ?_ ?_
    · simp [e0]
    all_goals first | decide | omega | (split <;> omega))
  simp only [List.map, e0] at q
  rw [q]
  by_cases c : w % 512 = 0
  · rw [if_pos c, if_pos (by first | omega | (split <;> omega))]
  · rw [if_neg c, if_neg (by first | omega | (split <;> omega))]
theorem nm_call (h0 : 36864 ≤ w) (h1 : w < 40960) : F_Form_numbers [formD "Near" 9 [partD 0 5 true], .int w] h = if w % 4096 < 32 then .ok (.ref h.length) (h ++ [.lst [.int ((if w % 32 < 16 then w % 32 else w % 32 - 32))]]) else .ex "NoDeed" [] (h ++ [.lst [.int ((if w % 32 < 16 then w % 32 else w % 32 - 32))]]) := by
  have e0 : tkD w (partD 0 5 true) = .int ((if w % 32 < 16 then w % 32 else w % 32 - 32)) := tk_5
  have q := numbers_ok (c := "Near") (by decide) (op := 9) (w := w) (one := 36864 + (if w % 32 < 16 then w % 32 else w % 32 - 32) % 32) (ps := [partD 0 5 true]) (g := tkD w) h (by simp) (fun d hd => tkD_ok (by omega) (by simp at hd ⊢; subst hd; simp)) (by
    refine ow_call _ ?_
    · simp [e0]
    )
  simp only [List.map, e0] at q
  rw [q]
  by_cases c : w % 4096 < 32
  · rw [if_pos c, if_pos (by first | omega | (split <;> omega))]
  · rw [if_neg c, if_neg (by first | omega | (split <;> omega))]
theorem nm_farc (h0 : 40960 ≤ w) (h1 : w < 45056) : F_Form_numbers [formD "Far" 10 [], .int w] h = if w % 4096 = 0 then .ok (.ref h.length) (h ++ [.lst []]) else .ex "NoDeed" [] (h ++ [.lst []]) := by
  have q := numbers_ok (c := "Far") (by decide) (op := 10) (w := w) (one := 40960) (ps := []) (g := tkD w) h (by simp) (fun d hd => nomatch hd) (by
    refine ow_farc _ ?_
    · simp []
    )
  simp only [List.map] at q
  rw [q]
  by_cases c : w % 4096 = 0
  · rw [if_pos c, if_pos (by first | omega | (split <;> omega))]
  · rw [if_neg c, if_neg (by first | omega | (split <;> omega))]
end
end Lk04


set_option autoImplicit false
set_option Elab.async false
set_option linter.all false
set_option maxRecDepth 100000
set_option maxHeartbeats 4000000
namespace Lk04
open PySem PySem.Spec PyProof.Rows L2 Bm Fv
/-- an image that stays -/
structure Im (img : D) (xs : List Int) : Prop where
  ix : ∀ h i, ixD h img (.int i) = atI (xs.map D.int) i
  len : ∀ h, lenD h [img] = some (.int xs.length)
theorem Im.lst (xs : List Int) : Im (.lst (xs.map D.int)) xs := ⟨fun h i => rfl, fun h => by simp⟩
theorem Im.tup (xs : List Int) : Im (.tup (xs.map D.int)) xs := ⟨fun h i => rfl, fun h => by simp⟩
theorem l_plain (h : List Ob) : F_law_plain [] h = .ok (.lst [.str "halt", .str "rest", .str "back", .str "say", .str "ask", .str "push", .str "pop"]) h := by simp [F_law_plain, B_law_plain]
theorem l_pairs (h : List Ob) : F_law_pairs [] h = .ok (.lst [.str "add", .str "less", .str "and", .str "or", .str "xor", .str "left", .str "right", .str "turn"]) h := by simp [F_law_pairs, B_law_pairs]
theorem l_times (h : List Ob) : F_law_times [] h = .ok (.lst [.str "always", .str "zero", .str "some", .str "carry", .str "clear", .str "minus", .str "over"]) h := by simp [F_law_times, B_law_times]
/-- both tell the same -/
def Both (img : D) (p : Int) : Prop := ∀ h, (∃ d n, F_law_deed_at [img, .int p] h = .ok (.tup [d, .int n]) h ∧ F_Book_unpacked [bookD, img, .int p] h = .ok (.tup [d, .int n]) h) ∨ (F_law_deed_at [img, .int p] h = .ok .non h ∧ F_Book_unpacked [bookD, img, .int p] h = .ex "NoDeed" [] h)
/-- the book's look: of a form whose numbers are found -/
theorem un_ok {img : D} {xs : List Int} (I : Im img xs) {p w : Int} (hx : atI (xs.map D.int) p = some (.int w)) (hw : 0 ≤ w) {name : Str} {op : Int} {ps : List D} (ho : w / 4096 % 16 = op) (ho0 : 0 ≤ op) (ho1 : op < 11)
    (hn : atI [D.str "plain", .str "pair", .str "plus", .str "set", .str "high", .str "load", .str "store", .str "jump", .str "far jump", .str "call", .str "far call"] op = some (.str name)) (hv : valD (.inr name) bookKs bookFs = some (formD "Form" op ps)) (h : List Ob) {ns : List D} {d : D}
    (hr : F_Form_numbers [formD "Form" op ps, .int w] h = .ok (.ref h.length) (h ++ [.lst ns])) (hd : F_deed_of [.str name, .ref h.length] (h ++ [.lst ns]) = .ok d (h ++ [.lst ns])) (lo : low 0 d = true) : F_Book_unpacked [bookD, img, .int p] h = .ok (.tup [d, .int 1]) h := by
  refine fin_ok (h' := h ++ [.lst ns]) (d := .tup [d, .int 1]) ?_ drops_app (by simp) (by simp) ?_
  · have f := field_ok w 12 4 h hw (by decide)
    have f' : F_field [.int w, .int 12, .int 4] h = .ok (.int op) h := by
      have e : w / 2 ^ 12 % 2 ^ 4 = op := ho
      rw [← e]
      exact f
    simp [B_Book_unpacked, I.ix, hx, f', show ¬ (11 ≤ op) by omega, hn, -x_valD, hv, F_Form_read, B_Form_read, hr, hd, F_Form_size, B_Form_size]
  · exact fz_low (low_zero (by simp [low, lows, lo]))
theorem un_no {img : D} {xs : List Int} (I : Im img xs) {p w : Int} (hx : atI (xs.map D.int) p = some (.int w)) (hw : 0 ≤ w) {name : Str} {op : Int} {ps : List D} (ho : w / 4096 % 16 = op) (ho0 : 0 ≤ op) (ho1 : op < 11)
    (hn : atI [D.str "plain", .str "pair", .str "plus", .str "set", .str "high", .str "load", .str "store", .str "jump", .str "far jump", .str "call", .str "far call"] op = some (.str name)) (hv : valD (.inr name) bookKs bookFs = some (formD "Form" op ps)) (h : List Ob) {ns : List D}
    (hr : F_Form_numbers [formD "Form" op ps, .int w] h = .ex "NoDeed" [] (h ++ [.lst ns]) ∨ (F_Form_numbers [formD "Form" op ps, .int w] h = .ok (.ref h.length) (h ++ [.lst ns]) ∧ F_deed_of [.str name, .ref h.length] (h ++ [.lst ns]) = .ex "NoDeed" [] (h ++ [.lst ns]))) : F_Book_unpacked [bookD, img, .int p] h = .ex "NoDeed" [] h := by
  refine fin_ex (h' := h ++ [.lst ns]) ?_ drops_app (by simp) (by simp) (by simp [lows])
  have f := field_ok w 12 4 h hw (by decide)
  have f' : F_field [.int w, .int 12, .int 4] h = .ok (.int op) h := by
    have e : w / 2 ^ 12 % 2 ^ 4 = op := ho
    rw [← e]
    exact f
  rcases hr with hr | ⟨hr, hd⟩
  · simp [B_Book_unpacked, I.ix, hx, f', show ¬ (11 ≤ op) by omega, hn, -x_valD, hv, F_Form_read, B_Form_read, hr]
  · simp [B_Book_unpacked, I.ix, hx, f', show ¬ (11 ≤ op) by omega, hn, -x_valD, hv, F_Form_read, B_Form_read, hr, hd]
end Lk04


set_option autoImplicit false
set_option Elab.async false
set_option linter.all false
set_option maxRecDepth 100000
set_option maxHeartbeats 4000000
namespace Lk04
open PySem PySem.Spec PyProof.Rows L2 Bm Fv
theorem eight {r : Int} (h0 : 0 ≤ r) (h1 : r < 8) : r = 0 ∨ r = 1 ∨ r = 2 ∨ r = 3 ∨ r = 4 ∨ r = 5 ∨ r = 6 ∨ r = 7 := by omega
theorem cm64l (i : Int) : CMul 64 i := .inl (by omega)
theorem cm32l (i : Int) : CMul 32 i := .inl (by omega)
theorem lg512 : Nat.log2 512 < 9000 := by decide +kernel
theorem lg64 : Nat.log2 64 < 9000 := by decide +kernel
theorem lg8 : Nat.log2 8 < 9000 := by decide +kernel
section
variable {img : D} {xs : List Int} (I : Im img xs) {p w : Int} (hx : atI (xs.map D.int) p = some (.int w))
include I hx
theorem both_pair (h0 : 4096 ≤ w) (h1 : w < 8192) : Both img p := fun h => by
  have f : w / 4096 = 1 := by omega
  have e1 : w % 4096 / 512 = w / 512 % 8 := by omega
  have e2 : w % 4096 / 64 % 8 = w / 64 % 8 := by omega
  have e3 : w % 4096 / 8 % 8 = w / 8 % 8 := by omega
  have e4 : w % 4096 % 8 = w % 8 := by omega
  have nm := nm_pair h h0 h1
  refine .inl ?_
  obtain ⟨x, ex⟩ : ∃ x, atI [D.str "add", .str "less", .str "and", .str "or", .str "xor", .str "left", .str "right", .str "turn"] (w % 8) = some (.str (Str.ofString x)) := by
    rcases eight (r := w % 8) (by omega) (by omega) with c | c | c | c | c | c | c | c <;> rw [c]
    · exact ⟨"add", rfl⟩
    · exact ⟨"less", rfl⟩
    · exact ⟨"and", rfl⟩
    · exact ⟨"or", rfl⟩
    · exact ⟨"xor", rfl⟩
    · exact ⟨"left", rfl⟩
    · exact ⟨"right", rfl⟩
    · exact ⟨"turn", rfl⟩
  refine ⟨.tup [.str (Str.ofString x), .int (w / 512 % 8), .int (w / 64 % 8), .int (w / 8 % 8)], 1, ?_, ?_⟩
  · simp [F_law_deed_at, B_law_deed_at, I.ix, hx, divmodD, two, f, e1, e2, e3, e4, l_pairs, ex, lg512, lg64, lg8]
  · refine un_ok I hx (by omega) (name := "pair") (op := 1) (by omega) (by decide) (by decide) (by simp) (by simp) h nm ?_ (by simp [low, lows])
    simp [F_deed_of, B_deed_of, ex, slD, cut, HT.sIx, tupleD, sizeLine_eq]
theorem both_load (h0 : 20480 ≤ w) (h1 : w < 24576) : Both img p := fun h => by
  have f : w / 4096 = 5 := by omega
  have e1 : w % 4096 / 512 = w / 512 % 8 := by omega
  have e2 : w % 4096 / 64 % 8 = w / 64 % 8 := by omega
  have e5 : w % 4096 % 64 = w % 64 := by omega
  have e6 : w % 4096 % 512 = w % 512 := by omega
  have nm := nm_load h h0 h1
  refine .inl ⟨.tup [.str "load", .int (w / 512 % 8), .int (w / 64 % 8), .int (w % 64)], 1, ?_, ?_⟩
  · simp [F_law_deed_at, B_law_deed_at, I.ix, hx, divmodD, two, f, e1, e2, e5, e6, lg512, lg64, lg8, cm64l, cm32l]
  · refine un_ok I hx (by omega) (name := "load") (op := 5) (by omega) (by decide) (by decide) (by simp [atI, ixN]) (by simp) h nm ?_ (by simp [low, lows])
    simp [F_deed_of, B_deed_of, cut, slD, HT.sIx, tupleD, sizeLine_eq]
theorem both_store (h0 : 24576 ≤ w) (h1 : w < 28672) : Both img p := fun h => by
  have f : w / 4096 = 6 := by omega
  have e1 : w % 4096 / 512 = w / 512 % 8 := by omega
  have e2 : w % 4096 / 64 % 8 = w / 64 % 8 := by omega
  have e5 : w % 4096 % 64 = w % 64 := by omega
  have e6 : w % 4096 % 512 = w % 512 := by omega
  have nm := nm_store h h0 h1
  refine .inl ⟨.tup [.str "store", .int (w / 512 % 8), .int (w / 64 % 8), .int (w % 64)], 1, ?_, ?_⟩
  · simp [F_law_deed_at, B_law_deed_at, I.ix, hx, divmodD, two, f, e1, e2, e5, e6, lg512, lg64, lg8, cm64l, cm32l]
  · refine un_ok I hx (by omega) (name := "store") (op := 6) (by omega) (by decide) (by decide) (by simp [atI, ixN]) (by simp) h nm ?_ (by simp [low, lows])
    simp [F_deed_of, B_deed_of, cut, slD, HT.sIx, tupleD, sizeLine_eq]
theorem both_plus (h0 : 8192 ≤ w) (h1 : w < 12288) : Both img p := fun h => by
  have f : w / 4096 = 2 := by omega
  have e1 : w % 4096 / 512 = w / 512 % 8 := by omega
  have e2 : w % 4096 / 64 % 8 = w / 64 % 8 := by omega
  have e5 : w % 4096 % 64 = w % 64 := by omega
  have e6 : w % 4096 % 512 = w % 512 := by omega
  have nm := nm_plus h h0 h1
  obtain ⟨z, ez⟩ : ∃ z : Int, z = (if w % 64 < 32 then w % 64 else w % 64 - 64) := ⟨_, rfl⟩
  rw [← ez] at nm
  refine .inl ⟨.tup [.str "plus", .int (w / 512 % 8), .int (w / 64 % 8), .int z], 1, ?_, ?_⟩
  · by_cases c : 31 < w % 64
    · rw [if_neg (by omega)] at ez
      subst ez
      simp [F_law_deed_at, B_law_deed_at, I.ix, hx, divmodD, two, f, e1, e2, e5, e6, lg512, lg64, lg8, cm64l, cm32l, c]
    · rw [if_pos (by omega)] at ez
      subst ez
      simp [F_law_deed_at, B_law_deed_at, I.ix, hx, divmodD, two, f, e1, e2, e5, e6, lg512, lg64, lg8, cm64l, cm32l, c]
  · refine un_ok I hx (by omega) (name := "plus") (op := 2) (by omega) (by decide) (by decide) (by simp [atI, ixN]) (by simp) h nm ?_ (by simp [low, lows])
    simp [F_deed_of, B_deed_of, cut, slD, HT.sIx, tupleD, sizeLine_eq]
theorem both_set (h0 : 12288 ≤ w) (h1 : w < 16384) : Both img p := fun h => by
  have f : w / 4096 = 3 := by omega
  have e1 : w % 4096 / 512 = w / 512 % 8 := by omega
  have e2 : w % 4096 / 64 % 8 = w / 64 % 8 := by omega
  have e5 : w % 4096 % 64 = w % 64 := by omega
  have e6 : w % 4096 % 512 = w % 512 := by omega
  have nm := nm_set h h0 h1
  refine .inl ⟨.tup [.str "set", .int (w / 512 % 8), .int (w % 512)], 1, ?_, ?_⟩
  · simp [F_law_deed_at, B_law_deed_at, I.ix, hx, divmodD, two, f, e1, e2, e5, e6, lg512, lg64, lg8, cm64l, cm32l]
  · refine un_ok I hx (by omega) (name := "set") (op := 3) (by omega) (by decide) (by decide) (by simp [atI, ixN]) (by simp) h nm ?_ (by simp [low, lows])
    simp [F_deed_of, B_deed_of, cut, slD, HT.sIx, tupleD, sizeLine_eq]
theorem both_high (h0 : 16384 ≤ w) (h1 : w < 20480) : Both img p := fun h => by
  have f : w / 4096 = 4 := by omega
  have e1 : w % 4096 / 512 = w / 512 % 8 := by omega
  have e2 : w % 4096 / 64 % 8 = w / 64 % 8 := by omega
  have e5 : w % 4096 % 64 = w % 64 := by omega
  have e6 : w % 4096 % 512 = w % 512 := by omega
  have nm := nm_high h h0 h1
  by_cases c : w % 512 < 128
  · rw [if_pos c] at nm
    have e7 : w % 128 = w % 512 := by omega
    rw [e7] at nm
    refine .inl ⟨.tup [.str "high", .int (w / 512 % 8), .int (w % 512)], 1, ?_, ?_⟩
    · simp [F_law_deed_at, B_law_deed_at, I.ix, I.len, hx, divmodD, two, f, e1, e2, e5, e6, lg512, lg64, lg8, cm64l, cm32l, c]
    · refine un_ok I hx (by omega) (name := "high") (op := 4) (by omega) (by decide) (by decide) (by simp [atI, ixN]) (by simp) h nm ?_ (by simp [low, lows])
      simp [F_deed_of, B_deed_of, cut, slD, HT.sIx, tupleD, sizeLine_eq]
  · rw [if_neg c] at nm
    refine .inr ⟨?_, un_no I hx (by omega) (name := "high") (op := 4) (by omega) (by decide) (by decide) (by simp [atI, ixN]) (by simp) h (.inl nm)⟩
    by_cases g : p + 1 = xs.length
    · simp [F_law_deed_at, B_law_deed_at, I.ix, I.len, hx, divmodD, two, f, e1, e2, e5, e6, lg512, lg64, lg8, cm64l, cm32l, c, g]
    · simp [F_law_deed_at, B_law_deed_at, I.ix, I.len, hx, divmodD, two, f, e1, e2, e5, e6, lg512, lg64, lg8, cm64l, cm32l, c, g]
end
end Lk04


set_option autoImplicit false
set_option Elab.async false
set_option linter.all false
set_option maxRecDepth 100000
set_option maxHeartbeats 4000000
namespace Lk04
open PySem PySem.Spec PyProof.Rows L2 Bm Fv
section
variable {img : D} {xs : List Int} (I : Im img xs) {p w : Int} (hx : atI (xs.map D.int) p = some (.int w))
include I hx
theorem both_plain (h0 : 0 ≤ w) (h1 : w < 4096) : Both img p := fun h => by
  have f : w / 4096 = 0 := by omega
  have e0 : w % 4096 = w := by omega
  have e8 : w / 512 % 8 = w / 512 := by omega
  have nm := nm_plain h h0 h1
  obtain ⟨a, ea, a0, a1⟩ : ∃ a, w / 64 % 8 = a ∧ 0 ≤ a ∧ a < 8 := ⟨_, rfl, by omega, by omega⟩
  rw [ea] at nm
  by_cases c : w % 64 = 0
  · rw [if_pos c] at nm
    rcases eight (r := w / 512) (by omega) (by omega) with d | d | d | d | d | d | d | d
    all_goals rw [d] at nm
    · by_cases g : 0 < a
      · refine .inr ⟨?_, un_no I hx (by omega) (name := "plain") (op := 0) (by omega) (by decide) (by decide) (by simp) (by simp) h (.inr ⟨nm, ?_⟩)⟩
        · simp [F_law_deed_at, B_law_deed_at, I.ix, I.len, hx, divmodD, two, f, e0, lg512, lg64, lg8, l_plain, sizeLine_eq, d, ea, c, g]
        · simp [F_deed_of, B_deed_of, lstG, g]
      · refine .inl ⟨.tup [.str "halt"], 1, ?_, un_ok I hx (by omega) (name := "plain") (op := 0) (by omega) (by decide) (by decide) (by simp) (by simp) h nm ?_ (by simp [low, lows])⟩
        · simp [F_law_deed_at, B_law_deed_at, I.ix, I.len, hx, divmodD, two, f, e0, lg512, lg64, lg8, l_plain, sizeLine_eq, d, ea, c, g]
        · simp [F_deed_of, B_deed_of, lstG, g, sizeLine_eq]
    · by_cases g : 0 < a
      · refine .inr ⟨?_, un_no I hx (by omega) (name := "plain") (op := 0) (by omega) (by decide) (by decide) (by simp) (by simp) h (.inr ⟨nm, ?_⟩)⟩
        · simp [F_law_deed_at, B_law_deed_at, I.ix, I.len, hx, divmodD, two, f, e0, lg512, lg64, lg8, l_plain, sizeLine_eq, d, ea, c, g]
        · simp [F_deed_of, B_deed_of, lstG, g]
      · refine .inl ⟨.tup [.str "rest"], 1, ?_, un_ok I hx (by omega) (name := "plain") (op := 0) (by omega) (by decide) (by decide) (by simp) (by simp) h nm ?_ (by simp [low, lows])⟩
        · simp [F_law_deed_at, B_law_deed_at, I.ix, I.len, hx, divmodD, two, f, e0, lg512, lg64, lg8, l_plain, sizeLine_eq, d, ea, c, g]
        · simp [F_deed_of, B_deed_of, lstG, g, sizeLine_eq]
    · by_cases g : 0 < a
      · refine .inr ⟨?_, un_no I hx (by omega) (name := "plain") (op := 0) (by omega) (by decide) (by decide) (by simp) (by simp) h (.inr ⟨nm, ?_⟩)⟩
        · simp [F_law_deed_at, B_law_deed_at, I.ix, I.len, hx, divmodD, two, f, e0, lg512, lg64, lg8, l_plain, sizeLine_eq, d, ea, c, g]
        · simp [F_deed_of, B_deed_of, lstG, g]
      · refine .inl ⟨.tup [.str "back"], 1, ?_, un_ok I hx (by omega) (name := "plain") (op := 0) (by omega) (by decide) (by decide) (by simp) (by simp) h nm ?_ (by simp [low, lows])⟩
        · simp [F_law_deed_at, B_law_deed_at, I.ix, I.len, hx, divmodD, two, f, e0, lg512, lg64, lg8, l_plain, sizeLine_eq, d, ea, c, g]
        · simp [F_deed_of, B_deed_of, lstG, g, sizeLine_eq]
    · refine .inl ⟨.tup [.str "say", .int a], 1, ?_, un_ok I hx (by omega) (name := "plain") (op := 0) (by omega) (by decide) (by decide) (by simp) (by simp) h nm ?_ (by simp [low, lows])⟩
      · simp [F_law_deed_at, B_law_deed_at, I.ix, I.len, hx, divmodD, two, f, e0, lg512, lg64, lg8, l_plain, sizeLine_eq, d, ea, c]
      · simp [F_deed_of, B_deed_of, lstG, sizeLine_eq]
    · refine .inl ⟨.tup [.str "ask", .int a], 1, ?_, un_ok I hx (by omega) (name := "plain") (op := 0) (by omega) (by decide) (by decide) (by simp) (by simp) h nm ?_ (by simp [low, lows])⟩
      · simp [F_law_deed_at, B_law_deed_at, I.ix, I.len, hx, divmodD, two, f, e0, lg512, lg64, lg8, l_plain, sizeLine_eq, d, ea, c]
      · simp [F_deed_of, B_deed_of, lstG, sizeLine_eq]
    · refine .inl ⟨.tup [.str "push", .int a], 1, ?_, un_ok I hx (by omega) (name := "plain") (op := 0) (by omega) (by decide) (by decide) (by simp) (by simp) h nm ?_ (by simp [low, lows])⟩
      · simp [F_law_deed_at, B_law_deed_at, I.ix, I.len, hx, divmodD, two, f, e0, lg512, lg64, lg8, l_plain, sizeLine_eq, d, ea, c]
      · simp [F_deed_of, B_deed_of, lstG, sizeLine_eq]
    · refine .inl ⟨.tup [.str "pop", .int a], 1, ?_, un_ok I hx (by omega) (name := "plain") (op := 0) (by omega) (by decide) (by decide) (by simp) (by simp) h nm ?_ (by simp [low, lows])⟩
      · simp [F_law_deed_at, B_law_deed_at, I.ix, I.len, hx, divmodD, two, f, e0, lg512, lg64, lg8, l_plain, sizeLine_eq, d, ea, c]
      · simp [F_deed_of, B_deed_of, lstG, sizeLine_eq]
    · refine .inr ⟨?_, un_no I hx (by omega) (name := "plain") (op := 0) (by omega) (by decide) (by decide) (by simp) (by simp) h (.inr ⟨nm, ?_⟩)⟩
      · simp [F_law_deed_at, B_law_deed_at, I.ix, I.len, hx, divmodD, two, f, e0, lg512, lg64, lg8, l_plain, sizeLine_eq, d, ea, c]
      · simp [F_deed_of, B_deed_of, lstG]
  · rw [if_neg c] at nm
    refine .inr ⟨?_, un_no I hx (by omega) (name := "plain") (op := 0) (by omega) (by decide) (by decide) (by simp) (by simp) h (.inl nm)⟩
    have c' : 0 < w % 64 := by omega
    rcases eight (r := w / 512) (by omega) (by omega) with d | d | d | d | d | d | d | d <;> simp [F_law_deed_at, B_law_deed_at, I.ix, I.len, hx, divmodD, two, f, e0, lg512, lg64, lg8, l_plain, sizeLine_eq, d, ea, c, c']
theorem both_none (h0 : 45056 ≤ w) (h1 : w < 65536) : Both img p := fun h => by
  refine .inr ⟨?_, ?_⟩
  · obtain ⟨k, f⟩ : ∃ k, w / 4096 = k := ⟨_, rfl⟩
    have k0 : k ≠ 0 ∧ k ≠ 1 ∧ k ≠ 2 ∧ k ≠ 3 ∧ k ≠ 4 ∧ k ≠ 5 ∧ k ≠ 6 ∧ k ≠ 7 ∧ k ≠ 8 ∧ k ≠ 9 ∧ k ≠ 10 := by omega
    have ks : ¬ (2 = k) ∧ ¬ (5 = k) ∧ ¬ (6 = k) := by omega
    by_cases g : p + 1 = xs.length
    · simp [F_law_deed_at, B_law_deed_at, I.ix, I.len, hx, divmodD, two, f, lg512, lg64, lg8, cm64l, cm32l, k0, ks, g]
    · simp [F_law_deed_at, B_law_deed_at, I.ix, I.len, hx, divmodD, two, f, lg512, lg64, lg8, cm64l, cm32l, k0, ks, g]
  · refine fin_ex (h' := h ++ []) ?_ drops_app (by simp) (by simp) (by simp [lows])
    have f := field_ok w 12 4 h (by omega) (by decide)
    obtain ⟨k, e⟩ : ∃ k, w / 2 ^ 12 % 2 ^ 4 = k := ⟨_, rfl⟩
    have f' : F_field [.int w, .int 12, .int 4] h = .ok (.int k) h := by
      rw [← e]
      exact f
    have k1 : 11 ≤ k := by omega
    simp [B_Book_unpacked, I.ix, hx, f', k1]
end
end Lk04


set_option autoImplicit false
set_option Elab.async false
set_option linter.all false
set_option maxRecDepth 100000
set_option maxHeartbeats 4000000
namespace Lk04
open PySem PySem.Spec PyProof.Rows L2 Bm Fv
abbrev namesL : List D := [D.str "plain", .str "pair", .str "plus", .str "set", .str "high", .str "load", .str "store", .str "jump", .str "far jump", .str "call", .str "far call"]
section
variable {img : D} {xs : List Int} (I : Im img xs) {p w : Int} (hx : atI (xs.map D.int) p = some (.int w)) (hw : 0 ≤ w) {name : Str} {op : Int} {ps : List D} (ho : w / 4096 % 16 = op) (ho0 : 0 ≤ op) (ho1 : op < 11) (hn : atI namesL op = some (.str name))
include I hx hw ho ho0 ho1 hn
theorem unN_ok (hv : valD (.inr name) bookKs bookFs = some (formD "Near" op ps)) (h : List Ob) {t : List Ob} {nd d : D}
    (hr : F_Near_read [formD "Near" op ps, img, .int p] h = .ok nd (h ++ t)) (hd : F_deed_of [.str name, nd] (h ++ t) = .ok d (h ++ t)) (lo : low 0 d = true) : F_Book_unpacked [bookD, img, .int p] h = .ok (.tup [d, .int 1]) h := by
  refine fin_ok (h' := h ++ t) (d := .tup [d, .int 1]) ?_ drops_app (by simp) (by simp) ?_
  · have f := field_ok w 12 4 h hw (by decide)
    have f' : F_field [.int w, .int 12, .int 4] h = .ok (.int op) h := by
      have e : w / 2 ^ 12 % 2 ^ 4 = op := ho
      rw [← e]
      exact f
    simp [B_Book_unpacked, I.ix, hx, f', show ¬ (11 ≤ op) by omega, hn, -x_valD, hv, hr, hd, F_Form_size, B_Form_size]
  · exact fz_low (low_zero (by simp [low, lows, lo]))
theorem unN_no (hv : valD (.inr name) bookKs bookFs = some (formD "Near" op ps)) (h : List Ob) {t : List Ob} {nd : D}
    (hr : F_Near_read [formD "Near" op ps, img, .int p] h = .ex "NoDeed" [] (h ++ t) ∨ (F_Near_read [formD "Near" op ps, img, .int p] h = .ok nd (h ++ t) ∧ F_deed_of [.str name, nd] (h ++ t) = .ex "NoDeed" [] (h ++ t))) : F_Book_unpacked [bookD, img, .int p] h = .ex "NoDeed" [] h := by
  refine fin_ex (h' := h ++ t) ?_ drops_app (by simp) (by simp) (by simp [lows])
  have f := field_ok w 12 4 h hw (by decide)
  have f' : F_field [.int w, .int 12, .int 4] h = .ok (.int op) h := by
    have e : w / 2 ^ 12 % 2 ^ 4 = op := ho
    rw [← e]
    exact f
  rcases hr with hr | ⟨hr, hd⟩
  · simp [B_Book_unpacked, I.ix, hx, f', show ¬ (11 ≤ op) by omega, hn, -x_valD, hv, hr]
  · simp [B_Book_unpacked, I.ix, hx, f', show ¬ (11 ≤ op) by omega, hn, -x_valD, hv, hr, hd]
theorem unF_ok (hv : valD (.inr name) bookKs bookFs = some (formD "Far" op ps)) (h : List Ob) {t : List Ob} {nd d : D}
    (hr : F_Far_read [formD "Far" op ps, img, .int p] h = .ok nd (h ++ t)) (hd : F_deed_of [.str name, nd] (h ++ t) = .ok d (h ++ t)) (lo : low 0 d = true) : F_Book_unpacked [bookD, img, .int p] h = .ok (.tup [d, .int 2]) h := by
  refine fin_ok (h' := h ++ t) (d := .tup [d, .int 2]) ?_ drops_app (by simp) (by simp) ?_
  · have f := field_ok w 12 4 h hw (by decide)
    have f' : F_field [.int w, .int 12, .int 4] h = .ok (.int op) h := by
      have e : w / 2 ^ 12 % 2 ^ 4 = op := ho
      rw [← e]
      exact f
    simp [B_Book_unpacked, I.ix, hx, f', show ¬ (11 ≤ op) by omega, hn, -x_valD, hv, hr, hd, F_Far_size, B_Far_size]
  · exact fz_low (low_zero (by simp [low, lows, lo]))
theorem unF_no (hv : valD (.inr name) bookKs bookFs = some (formD "Far" op ps)) (h : List Ob) {t : List Ob} {nd : D}
    (hr : F_Far_read [formD "Far" op ps, img, .int p] h = .ex "NoDeed" [] (h ++ t) ∨ (F_Far_read [formD "Far" op ps, img, .int p] h = .ok nd (h ++ t) ∧ F_deed_of [.str name, nd] (h ++ t) = .ex "NoDeed" [] (h ++ t))) : F_Book_unpacked [bookD, img, .int p] h = .ex "NoDeed" [] h := by
  refine fin_ex (h' := h ++ t) ?_ drops_app (by simp) (by simp) (by simp [lows])
  have f := field_ok w 12 4 h hw (by decide)
  have f' : F_field [.int w, .int 12, .int 4] h = .ok (.int op) h := by
    have e : w / 2 ^ 12 % 2 ^ 4 = op := ho
    rw [← e]
    exact f
  rcases hr with hr | ⟨hr, hd⟩
  · simp [B_Book_unpacked, I.ix, hx, f', show ¬ (11 ≤ op) by omega, hn, -x_valD, hv, hr]
  · simp [B_Book_unpacked, I.ix, hx, f', show ¬ (11 ≤ op) by omega, hn, -x_valD, hv, hr, hd]
end
section
variable {img : D} {xs : List Int} (I : Im img xs) {p w : Int} (hx : atI (xs.map D.int) p = some (.int w))
include I hx
theorem near_ex {op : Int} {ps : List D} (h : List Ob) {t : List Ob} (nm : F_Form_numbers [formD "Near" op ps, .int w] h = .ex "NoDeed" [] (h ++ t)) : F_Near_read [formD "Near" op ps, img, .int p] h = .ex "NoDeed" [] (h ++ t) := by
  simp [F_Near_read, B_Near_read, I.ix, hx, nm]
theorem near_2 {op d z : Int} {ps : List D} (h : List Ob) (nm : F_Form_numbers [formD "Near" op ps, .int w] h = .ok (.ref h.length) (h ++ [.lst [.int d, .int z]])) :
    F_Near_read [formD "Near" op ps, img, .int p] h = if z + (p + 1) < 0 then .ex "NoDeed" [] (h ++ [.lst [.int d, .int (z + (p + 1))]]) else .ok (.ref h.length) (h ++ [.lst [.int d, .int (z + (p + 1))]]) := by
  by_cases c : z + (p + 1) < 0 <;> simp [F_Near_read, B_Near_read, I.ix, hx, nm, ixN, c]
theorem near_1 {op z : Int} {ps : List D} (h : List Ob) (nm : F_Form_numbers [formD "Near" op ps, .int w] h = .ok (.ref h.length) (h ++ [.lst [.int z]])) :
    F_Near_read [formD "Near" op ps, img, .int p] h = if z + (p + 1) < 0 then .ex "NoDeed" [] (h ++ [.lst [.int (z + (p + 1))]]) else .ok (.ref h.length) (h ++ [.lst [.int (z + (p + 1))]]) := by
  by_cases c : z + (p + 1) < 0 <;> simp [F_Near_read, B_Near_read, I.ix, hx, nm, ixN, c]
end
end Lk04


set_option autoImplicit false
set_option Elab.async false
set_option linter.all false
set_option maxRecDepth 100000
set_option maxHeartbeats 4000000
namespace Lk04
open PySem PySem.Spec PyProof.Rows L2 Bm Fv
theorem txs : Txt.endswith ("call" : Str) "call" = true ∧ Txt.endswith ("far call" : Str) "call" = true ∧ Txt.endswith ("jump" : Str) "call" = false ∧ Txt.endswith ("far jump" : Str) "call" = false ∧ Txt.startswith ("call" : Str) "far" = false ∧ Txt.startswith ("jump" : Str) "far" = false ∧ Txt.startswith ("far call" : Str) "far" = true ∧ Txt.startswith ("far jump" : Str) "far" = true := by decide +kernel
section
variable {img : D} {xs : List Int} (I : Im img xs) {p w : Int} (hx : atI (xs.map D.int) p = some (.int w))
include I hx
theorem both_call (h0 : 36864 ≤ w) (h1 : w < 40960) : Both img p := fun h => by
  have f : w / 4096 = 9 := by omega
  have e7 : w % 4096 % 32 = w % 32 := by omega
  have nm := nm_call h h0 h1
  obtain ⟨z, ez⟩ : ∃ z : Int, z = (if w % 32 < 16 then w % 32 else w % 32 - 32) := ⟨_, rfl⟩
  rw [← ez] at nm
  obtain ⟨g, eg⟩ : ∃ g : Int, g = z + (p + 1) := ⟨_, rfl⟩
  have q := near_1 (p := p) I hx (op := 9) (z := z) (ps := [partD 0 5 true]) h
  rw [← eg] at q
  have lw : p + 1 + w % 32 - 32 * (if 15 < w % 32 then 1 else 0) = g := by
    rw [eg, ez]
    by_cases c : 15 < w % 32
    · rw [if_pos c, if_neg (by omega)]; omega
    · rw [if_neg c, if_pos (by omega)]; omega
  by_cases c : w % 4096 < 32
  · rw [if_pos c] at nm
    have q := q nm
    by_cases n : g < 0
    · rw [if_pos n] at q
      refine .inr ⟨?_, unN_no I hx (by omega) (name := "call") (op := 9) (by omega) (by decide) (by decide) (by simp [atI, ixN]) (by simp) h (nd := .non) (.inl q)⟩
      by_cases m : p + 1 = xs.length <;> by_cases k : 15 < w % 32
      all_goals simp only [k, if_true, if_false] at lw
      · simp [F_law_deed_at, B_law_deed_at, I.ix, I.len, hx, divmodD, two, f, e7, lg512, lg64, lg8, cm64l, cm32l, c, k, m, show ¬ (32 ≤ (xs.length : Int) + w % 32) by omega, show ¬ (32 ≤ p + 1 + w % 32) by omega]
      · simp [F_law_deed_at, B_law_deed_at, I.ix, I.len, hx, divmodD, two, f, e7, lg512, lg64, lg8, cm64l, cm32l, c, k, m, show ¬ (0 ≤ (xs.length : Int) + w % 32) by omega, show ¬ (0 ≤ p + 1 + w % 32) by omega]
      · simp [F_law_deed_at, B_law_deed_at, I.ix, I.len, hx, divmodD, two, f, e7, lg512, lg64, lg8, cm64l, cm32l, c, k, m, show ¬ (32 ≤ p + 1 + w % 32) by omega]
      · simp [F_law_deed_at, B_law_deed_at, I.ix, I.len, hx, divmodD, two, f, e7, lg512, lg64, lg8, cm64l, cm32l, c, k, m, show ¬ (0 ≤ p + 1 + w % 32) by omega]
    · rw [if_neg n] at q
      refine .inl ⟨.tup [.str "call", .int g, .bl false], 1, ?_, unN_ok I hx (by omega) (name := "call") (op := 9) (by omega) (by decide) (by decide) (by simp [atI, ixN]) (by simp) h q ?_ (by simp [low, lows])⟩
      · by_cases k : 15 < w % 32
        · rw [if_pos k] at lw
          have l2 : p + 1 + w % 32 - 32 = g := by omega
          have l3 : 32 ≤ p + 1 + w % 32 := by omega
          simp [F_law_deed_at, B_law_deed_at, I.ix, I.len, hx, divmodD, two, f, e7, lg512, lg64, lg8, cm64l, cm32l, k, l2, l3, c, show 0 ≤ g by omega]
        · rw [if_neg k] at lw
          have l2 : p + 1 + w % 32 = g := by omega
          have l3 : 0 ≤ g := by omega
          simp [F_law_deed_at, B_law_deed_at, I.ix, I.len, hx, divmodD, two, f, e7, lg512, lg64, lg8, cm64l, cm32l, k, l2, l3, c, show 0 ≤ g by omega]
      · simp [F_deed_of, B_deed_of, tyD, endswithD, startswithD, txs]
  · rw [if_neg c] at nm
    refine .inr ⟨?_, unN_no I hx (by omega) (name := "call") (op := 9) (by omega) (by decide) (by decide) (by simp [atI, ixN]) (by simp) h (nd := .non) (.inl (near_ex I hx h nm))⟩
    by_cases m : p + 1 = xs.length
    · simp [F_law_deed_at, B_law_deed_at, I.ix, I.len, hx, divmodD, two, f, e7, lg512, lg64, lg8, cm64l, cm32l, lw, c, m]
    · simp [F_law_deed_at, B_law_deed_at, I.ix, I.len, hx, divmodD, two, f, e7, lg512, lg64, lg8, cm64l, cm32l, lw, c, m]
end
end Lk04


set_option autoImplicit false
set_option Elab.async false
set_option linter.all false
set_option maxRecDepth 100000
set_option maxHeartbeats 4000000
namespace Lk04
open PySem PySem.Spec PyProof.Rows L2 Bm Fv
section
variable {img : D} {xs : List Int} (I : Im img xs) {p w : Int} (hx : atI (xs.map D.int) p = some (.int w))
include I hx
theorem far_ex {op : Int} {ps : List D} (h : List Ob) {t : List Ob} (hl : ¬ ((xs.length : Int) ≤ p + 1)) (nm : F_Form_numbers [formD "Far" op ps, .int w] h = .ex "NoDeed" [] (h ++ t)) : F_Far_read [formD "Far" op ps, img, .int p] h = .ex "NoDeed" [] (h ++ t) := by
  simp [F_Far_read, B_Far_read, I.ix, I.len, hx, nm, hl]
theorem far_end {op : Int} {ps : List D} (h : List Ob) (hl : (xs.length : Int) ≤ p + 1) : F_Far_read [formD "Far" op ps, img, .int p] h = .ex "NoDeed" [] (h ++ []) := by
  simp [F_Far_read, B_Far_read, I.ix, I.len, hx, hl]
theorem far_ok {op v : Int} {ps : List D} {ns : List D} (h : List Ob) (hl : ¬ ((xs.length : Int) ≤ p + 1)) (hv : atI (xs.map D.int) (p + 1) = some (.int v)) (hs : ns.length ≤ 1000) (nm : F_Form_numbers [formD "Far" op ps, .int w] h = .ok (.ref h.length) (h ++ [.lst ns])) :
    F_Far_read [formD "Far" op ps, img, .int p] h = .ok (.lst (ns ++ [.int v])) (h ++ [.lst ns]) := by
  have : ns.length + 1 ≤ sizeLine := by rw [sizeLine_eq]; omega
  simp [F_Far_read, B_Far_read, I.ix, I.len, hx, nm, hl, hv, this]
theorem both_farc (hp : p < xs.length) (hp0 : 0 ≤ p) (h0 : 40960 ≤ w) (h1 : w < 45056) : Both img p := fun h => by
  have f : w / 4096 = 10 := by omega
  have nm := nm_farc h h0 h1
  by_cases m : p + 1 = xs.length
  · refine .inr ⟨?_, unF_no I hx (by omega) (name := "far call") (op := 10) (ps := []) (by omega) (by decide) (by decide) (by simp [atI, ixN]) (by simp) h (nd := .non) (.inl (far_end I hx h (by omega)))⟩
    simp [F_law_deed_at, B_law_deed_at, I.ix, I.len, hx, divmodD, two, f, lg512, lg64, lg8, cm64l, cm32l, m]
  · have hl : ¬ ((xs.length : Int) ≤ p + 1) := by omega
    have hv : atI (xs.map D.int) (p + 1) = some (.int (xs[(p + 1).toNat]'(by omega))) := atI_of (by omega) (by simp)
    by_cases c : w % 4096 = 0
    · rw [if_pos c] at nm
      refine .inl ⟨.tup [.str "call", .int (xs[(p + 1).toNat]'(by omega)), .bl true], 2, ?_, unF_ok I hx (by omega) (name := "far call") (op := 10) (ps := []) (by omega) (by decide) (by decide) (by simp [atI, ixN]) (by simp) h (far_ok I hx h hl hv (by simp) nm) ?_ (by simp [low, lows])⟩
      · simp [F_law_deed_at, B_law_deed_at, I.ix, I.len, hx, divmodD, two, f, lg512, lg64, lg8, cm64l, cm32l, m, c, hv]
      · simp [F_deed_of, B_deed_of, tyD, endswithD, startswithD, txs]
    · rw [if_neg c] at nm
      refine .inr ⟨?_, unF_no I hx (by omega) (name := "far call") (op := 10) (ps := []) (by omega) (by decide) (by decide) (by simp [atI, ixN]) (by simp) h (nd := .non) (.inl (far_ex I hx h hl nm))⟩
      simp [F_law_deed_at, B_law_deed_at, I.ix, I.len, hx, divmodD, two, f, lg512, lg64, lg8, cm64l, cm32l, m, c]
end
end Lk04


set_option autoImplicit false
set_option Elab.async false
set_option linter.all false
set_option maxRecDepth 100000
set_option maxHeartbeats 4000000
namespace Lk04
open PySem PySem.Spec PyProof.Rows L2 Bm Fv
theorem times_at {r : Int} (h0 : 0 ≤ r) (h1 : r < 7) : ∃ x : String, atI [D.str "always", .str "zero", .str "some", .str "carry", .str "clear", .str "minus", .str "over"] r = some (.str (Str.ofString x)) := by
  rcases (by omega : r = 0 ∨ r = 1 ∨ r = 2 ∨ r = 3 ∨ r = 4 ∨ r = 5 ∨ r = 6) with rfl | rfl | rfl | rfl | rfl | rfl | rfl
  · exact ⟨"always", rfl⟩
  · exact ⟨"zero", rfl⟩
  · exact ⟨"some", rfl⟩
  · exact ⟨"carry", rfl⟩
  · exact ⟨"clear", rfl⟩
  · exact ⟨"minus", rfl⟩
  · exact ⟨"over", rfl⟩
section
variable {img : D} {xs : List Int} (I : Im img xs) {p w : Int} (hx : atI (xs.map D.int) p = some (.int w))
include I hx
theorem both_farj (hp : p < xs.length) (hp0 : 0 ≤ p) (h0 : 32768 ≤ w) (h1 : w < 36864) : Both img p := fun h => by
  have f : w / 4096 = 8 := by omega
  have e1 : w % 4096 / 512 = w / 512 % 8 := by omega
  have e6 : w % 4096 % 512 = w % 512 := by omega
  have nm := nm_farj h h0 h1
  by_cases m : p + 1 = xs.length
  · refine .inr ⟨?_, unF_no I hx (by omega) (name := "far jump") (op := 8) (ps := [pH]) (by omega) (by decide) (by decide) (by simp [atI, ixN]) (by simp) h (nd := .non) (.inl (far_end I hx h (by omega)))⟩
    simp [F_law_deed_at, B_law_deed_at, I.ix, I.len, hx, divmodD, two, f, e1, e6, lg512, lg64, lg8, cm64l, cm32l, m]
  · have hl : ¬ ((xs.length : Int) ≤ p + 1) := by omega
    have hv : atI (xs.map D.int) (p + 1) = some (.int (xs[(p + 1).toNat]'(by omega))) := atI_of (by omega) (by simp)
    by_cases c : w % 512 = 0
    · rw [if_pos c] at nm
      have q := far_ok I hx h hl hv (by simp) nm
      by_cases d : w / 512 % 8 < 7
      · obtain ⟨x, ex⟩ := times_at (r := w / 512 % 8) (by omega) d
        refine .inl ⟨.tup [.str "jump", .str (Str.ofString x), .int (xs[(p + 1).toNat]'(by omega)), .bl true], 2, ?_, unF_ok I hx (by omega) (name := "far jump") (op := 8) (ps := [pH]) (by omega) (by decide) (by decide) (by simp [atI, ixN]) (by simp) h q ?_ (by simp [low, lows])⟩
        · simp [F_law_deed_at, B_law_deed_at, I.ix, I.len, hx, divmodD, two, f, e1, e6, lg512, lg64, lg8, cm64l, cm32l, m, c, hv, d, l_times, ex]
        · simp [F_deed_of, B_deed_of, tyD, endswithD, startswithD, txs, ex, show ¬ (7 ≤ w / 512 % 8) by omega]
      · refine .inr ⟨?_, unF_no I hx (by omega) (name := "far jump") (op := 8) (ps := [pH]) (by omega) (by decide) (by decide) (by simp [atI, ixN]) (by simp) h (.inr ⟨q, ?_⟩)⟩
        · simp [F_law_deed_at, B_law_deed_at, I.ix, I.len, hx, divmodD, two, f, e1, e6, lg512, lg64, lg8, cm64l, cm32l, m, c, d]
        · simp [F_deed_of, B_deed_of, tyD, endswithD, startswithD, txs, show 7 ≤ w / 512 % 8 by omega]
    · rw [if_neg c] at nm
      refine .inr ⟨?_, unF_no I hx (by omega) (name := "far jump") (op := 8) (ps := [pH]) (by omega) (by decide) (by decide) (by simp [atI, ixN]) (by simp) h (nd := .non) (.inl (far_ex I hx h hl nm))⟩
      by_cases d : w / 512 % 8 < 7 <;> simp [F_law_deed_at, B_law_deed_at, I.ix, I.len, hx, divmodD, two, f, e1, e6, lg512, lg64, lg8, cm64l, cm32l, m, c, d]
end
end Lk04


set_option autoImplicit false
set_option Elab.async false
set_option linter.all false
set_option maxRecDepth 100000
set_option maxHeartbeats 4000000
namespace Lk04
open PySem PySem.Spec PyProof.Rows L2 Bm Fv
section
variable {img : D} {xs : List Int} (I : Im img xs) {p w : Int} (hx : atI (xs.map D.int) p = some (.int w))
include I hx
theorem both_jump (h0 : 28672 ≤ w) (h1 : w < 32768) : Both img p := fun h => by
  have f : w / 4096 = 7 := by omega
  have e1 : w % 4096 / 512 = w / 512 % 8 := by omega
  have e6 : w % 4096 % 512 = w % 512 := by omega
  have e7 : w % 4096 % 32 = w % 32 := by omega
  have nm := nm_jump h h0 h1
  obtain ⟨z, ez⟩ : ∃ z : Int, z = (if w % 32 < 16 then w % 32 else w % 32 - 32) := ⟨_, rfl⟩
  rw [← ez] at nm
  obtain ⟨g, eg⟩ : ∃ g : Int, g = z + (p + 1) := ⟨_, rfl⟩
  have q := near_2 (p := p) I hx (op := 7) (d := w / 512 % 8) (z := z) (ps := [pH, partD 0 5 true]) h
  rw [← eg] at q
  have lw : p + 1 + w % 32 - 32 * (if 15 < w % 32 then 1 else 0) = g := by
    rw [eg, ez]
    by_cases c : 15 < w % 32
    · rw [if_pos c, if_neg (by omega)]; omega
    · rw [if_neg c, if_pos (by omega)]; omega
  have none_law : (¬ (w / 512 % 8 < 7) ∨ ¬ (w % 512 < 32) ∨ g < 0) → F_law_deed_at [img, .int p] h = .ok .non h := fun no => by
    by_cases d : w / 512 % 8 < 7
    · by_cases c : w % 512 < 32
      · by_cases m : p + 1 = xs.length <;> by_cases k : 15 < w % 32
        all_goals simp only [k, if_true, if_false] at lw
        · simp [F_law_deed_at, B_law_deed_at, I.ix, I.len, hx, divmodD, two, f, e1, e6, e7, lg512, lg64, lg8, cm64l, cm32l, m, k, d, c, show ¬ (32 ≤ (xs.length : Int) + w % 32) by omega, show ¬ (32 ≤ p + 1 + w % 32) by omega]
        · simp [F_law_deed_at, B_law_deed_at, I.ix, I.len, hx, divmodD, two, f, e1, e6, e7, lg512, lg64, lg8, cm64l, cm32l, m, k, d, c, show ¬ (0 ≤ (xs.length : Int) + w % 32) by omega, show ¬ (0 ≤ p + 1 + w % 32) by omega]
        · simp [F_law_deed_at, B_law_deed_at, I.ix, I.len, hx, divmodD, two, f, e1, e6, e7, lg512, lg64, lg8, cm64l, cm32l, m, k, d, c, show ¬ (32 ≤ p + 1 + w % 32) by omega]
        · simp [F_law_deed_at, B_law_deed_at, I.ix, I.len, hx, divmodD, two, f, e1, e6, e7, lg512, lg64, lg8, cm64l, cm32l, m, k, d, c, show ¬ (0 ≤ p + 1 + w % 32) by omega]
      · by_cases m : p + 1 = xs.length <;> simp [F_law_deed_at, B_law_deed_at, I.ix, I.len, hx, divmodD, two, f, e1, e6, e7, lg512, lg64, lg8, cm64l, cm32l, m, d, c]
    · by_cases m : p + 1 = xs.length <;> simp [F_law_deed_at, B_law_deed_at, I.ix, I.len, hx, divmodD, two, f, e1, e6, e7, lg512, lg64, lg8, cm64l, cm32l, m, d]
  by_cases c : w % 512 < 32
  · rw [if_pos c] at nm
    have q := q nm
    by_cases n : g < 0
    · rw [if_pos n] at q
      exact .inr ⟨none_law (by omega), unN_no I hx (by omega) (name := "jump") (op := 7) (ps := [pH, partD 0 5 true]) (by omega) (by decide) (by decide) (by simp [atI, ixN]) (by simp) h (nd := .non) (.inl q)⟩
    · rw [if_neg n] at q
      by_cases d : w / 512 % 8 < 7
      · obtain ⟨x, ex⟩ := times_at (r := w / 512 % 8) (by omega) d
        refine .inl ⟨.tup [.str "jump", .str (Str.ofString x), .int g, .bl false], 1, ?_, unN_ok I hx (by omega) (name := "jump") (op := 7) (ps := [pH, partD 0 5 true]) (by omega) (by decide) (by decide) (by simp [atI, ixN]) (by simp) h q ?_ (by simp [low, lows])⟩
        · by_cases k : 15 < w % 32
          · rw [if_pos k] at lw
            have l2 : p + 1 + w % 32 - 32 = g := by omega
            have l3 : 32 ≤ p + 1 + w % 32 := by omega
            simp [F_law_deed_at, B_law_deed_at, I.ix, I.len, hx, divmodD, two, f, e1, e6, e7, lg512, lg64, lg8, cm64l, cm32l, k, l2, l3, c, d, l_times, ex, show 0 ≤ g by omega]
          · rw [if_neg k] at lw
            have l2 : p + 1 + w % 32 = g := by omega
            simp [F_law_deed_at, B_law_deed_at, I.ix, I.len, hx, divmodD, two, f, e1, e6, e7, lg512, lg64, lg8, cm64l, cm32l, k, l2, c, d, l_times, ex, show 0 ≤ g by omega]
        · simp [F_deed_of, B_deed_of, tyD, endswithD, startswithD, txs, ex, show ¬ (7 ≤ w / 512 % 8) by omega]
      · refine .inr ⟨none_law (by omega), unN_no I hx (by omega) (name := "jump") (op := 7) (ps := [pH, partD 0 5 true]) (by omega) (by decide) (by decide) (by simp [atI, ixN]) (by simp) h (.inr ⟨q, ?_⟩)⟩
        simp [F_deed_of, B_deed_of, tyD, endswithD, startswithD, txs, show 7 ≤ w / 512 % 8 by omega]
  · rw [if_neg c] at nm
    exact .inr ⟨none_law (by omega), unN_no I hx (by omega) (name := "jump") (op := 7) (ps := [pH, partD 0 5 true]) (by omega) (by decide) (by decide) (by simp [atI, ixN]) (by simp) h (nd := .non) (.inl (near_ex I hx h nm))⟩
end
end Lk04


set_option autoImplicit false
set_option Elab.async false
set_option linter.all false
set_option maxRecDepth 100000
set_option maxHeartbeats 4000000
namespace Lk04
open PySem PySem.Spec PyProof.Rows L2 Bm Fv
theorem is_whole_int (i lo hi : Int) (h : List Ob) : F_is_whole [.int i, .int lo, .int hi] h = .ok (.bl (decide (lo ≤ i) && decide (i ≤ hi))) h := by
  by_cases h1 : lo ≤ i <;> simp [F_is_whole, B_is_whole, isiNames, isiB, h1]
def DrC (o : Ob) : Prop := ∃ (ns : List Int) (p x c : Int), o = .lst [.scr (ns.map D.int), .int p, .int x, .int c] ∧ 0 ≤ p ∧ 0 ≤ x ∧ x < 2147483647 ∧ 0 ≤ c
theorem drawn_ok {h : List Ob} {st : Nat} {o : Ob} (q : h[st]? = some o) (d : DrC o) {m : Int} (hm : 0 < m) (hl : m.natAbs.log2 < 9000) :
    ∃ r o', F_law_drawn [.ref st, .int m] h = .ok (.int r) (h.set st o') ∧ 0 ≤ r ∧ r < m ∧ DrC o' := by
  obtain ⟨ns, p, x, c, rfl, hp, hx0, hx1, hc⟩ := d
  by_cases h3 : 0 < c
  · refine ⟨c % m, .lst [.scr (ns.map D.int), .int p, .int x, .int (c / m)], ?_, Int.emod_nonneg _ (by omega), Int.emod_lt_of_pos _ hm, ns, p, x, c / m, rfl, hp, hx0, hx1, Int.ediv_nonneg hc (by omega)⟩
    simp [F_law_drawn, B_law_drawn, q, ixN, h3, hm, hl]
  · by_cases h1 : p + 1 ≤ ns.length
    · have hpl : p.toNat < ns.length := by omega
      have ea : atI (ns.map D.int) p = some (.int ns[p.toNat]) := atI_of hp (by simp [hpl])
      by_cases h2 : (1000000000000000000 : Int) ≤ ns[p.toNat]
      · refine ⟨ns[p.toNat] % m, .lst [.scr (ns.map D.int), .int (p + 1), .int x, .int (ns[p.toNat] / m)], ?_, Int.emod_nonneg _ (by omega), Int.emod_lt_of_pos _ hm, ns, p + 1, x, _, rfl, by omega, hx0, hx1, Int.ediv_nonneg (by omega) (by omega)⟩
        simp [F_law_drawn, B_law_drawn, q, at_set q, ixN, h3, hm, hl, h1, ea, h2]
      · refine ⟨ns[p.toNat] % m, .lst [.scr (ns.map D.int), .int (p + 1), .int x, .int 0], ?_, Int.emod_nonneg _ (by omega), Int.emod_lt_of_pos _ hm, ns, p + 1, x, _, rfl, by omega, hx0, hx1, by omega⟩
        simp [F_law_drawn, B_law_drawn, q, at_set q, ixN, h3, hm, hl, h1, ea, h2]
    · have hm2 : CMul x 48271 := .inr (by omega)
      have l7 : Nat.log2 7 < 9000 := by decide +kernel
      refine ⟨(x * 48271 + 11) % 2147483647 / 7 % m, .lst [.scr (ns.map D.int), .int (p + 1), .int ((x * 48271 + 11) % 2147483647), .int c], ?_, Int.emod_nonneg _ (by omega), Int.emod_lt_of_pos _ hm, ns, p + 1, _, _, rfl, by omega, Int.emod_nonneg _ (by omega), Int.emod_lt_of_pos _ (by omega), hc⟩
      simp [F_law_drawn, B_law_drawn, q, at_set q, ixN, h3, hm, hl, h1, hm2, l7]
/-- where drawing stands -/
def StD (st : Nat) (h : List Ob) : Prop := ∃ o, h[st]? = some o ∧ DrC o
def Keep (st : Nat) (h h' : List Ob) : Prop := h'.length = h.length ∧ ∀ k, k ≠ st → h'[k]? = h[k]?
theorem Keep.trans {st : Nat} {a b c : List Ob} (x : Keep st a b) (y : Keep st b c) : Keep st a c := ⟨y.1.trans x.1, fun k hk => (y.2 k hk).trans (x.2 k hk)⟩
theorem log_small {m : Int} (h0 : 0 < m) (h1 : m ≤ 1000000) : m.natAbs.log2 < 9000 := by
  have : m.natAbs.log2 < 20 := (Nat.log2_lt (by omega)).mpr (by omega)
  omega
theorem draw {st : Nat} {h : List Ob} (S : StD st h) (m : Int) (hm : 0 < m) (hl : m ≤ 1000000) : ∃ r h', F_law_drawn [.ref st, .int m] h = .ok (.int r) h' ∧ 0 ≤ r ∧ r < m ∧ StD st h' ∧ Keep st h h' := by
  obtain ⟨o, q, d⟩ := S
  obtain ⟨r, o', e, h1, h2, d'⟩ := drawn_ok q d hm (log_small hm hl)
  exact ⟨r, _, e, h1, h2, ⟨o', at_set q o', d'⟩, by simp, fun k hk => by simp [List.getElem?_set, Ne.symm hk]⟩
theorem number_ok {st : Nat} {h : List Ob} (S : StD st h) {lo hi : Int} (hlh : lo ≤ hi) (hs : hi - lo < 900000) : ∃ r h', F_law_number [.ref st, .int lo, .int hi] h = .ok (.int r) h' ∧ lo ≤ r ∧ r ≤ hi ∧ StD st h' ∧ Keep st h h' := by
  obtain ⟨w, h1, e1, a1, a2, S1, K1⟩ := draw S 4 (by decide) (by decide)
  by_cases c : w < 2
  · rcases (by omega : w = 0 ∨ w = 1) with rfl | rfl
    · exact ⟨lo, h1, by simp [F_law_number, B_law_number, e1], by omega, by omega, S1, K1⟩
    · exact ⟨hi, h1, by simp [F_law_number, B_law_number, e1], by omega, by omega, S1, K1⟩
  · rcases (by omega : w = 2 ∨ w = 3) with rfl | rfl
    · obtain ⟨r, h2, e2, b1, b2, S2, K2⟩ := draw S1 (hi - lo + 1) (by omega) (by omega)
      exact ⟨lo + r, h2, by simp [F_law_number, B_law_number, e1, e2], by omega, by omega, S2, K1.trans K2⟩
    · by_cases g : hi - lo + 1 < 4
      · obtain ⟨r, h2, e2, b1, b2, S2, K2⟩ := draw S1 (hi - lo + 1) (by omega) (by omega)
        exact ⟨lo + r, h2, by simp [F_law_number, B_law_number, e1, e2, g], by omega, by omega, S2, K1.trans K2⟩
      · obtain ⟨r, h2, e2, b1, b2, S2, K2⟩ := draw S1 4 (by omega) (by omega)
        exact ⟨lo + r, h2, by simp [F_law_number, B_law_number, e1, e2, g], by omega, by omega, S2, K1.trans K2⟩
/-- all but the draws' state stays; more may be there -/
def Ext (st : Nat) (h h' : List Ob) : Prop := h.length ≤ h'.length ∧ ∀ k, k < h.length → k ≠ st → h'[k]? = h[k]?
theorem Keep.ext {st : Nat} {h h' : List Ob} (k : Keep st h h') : Ext st h h' := ⟨Nat.le_of_eq k.1.symm, fun j _ n => k.2 j n⟩
theorem Ext.refl {st : Nat} {h : List Ob} : Ext st h h := ⟨Nat.le_refl _, fun _ _ _ => rfl⟩
theorem Ext.trans {st : Nat} {a b c : List Ob} (x : Ext st a b) (y : Ext st b c) : Ext st a c := ⟨Nat.le_trans x.1 y.1, fun k hk n => (y.2 k (Nat.lt_of_lt_of_le hk x.1) n).trans (x.2 k hk n)⟩
theorem Ext.app {st : Nat} {h t : List Ob} : Ext st h (h ++ t) := ⟨by simp, fun k hk _ => List.getElem?_append_left hk⟩
theorem StD.lt {st : Nat} {h : List Ob} (S : StD st h) : st < h.length := by
  obtain ⟨o, q, _⟩ := S
  exact (List.getElem?_eq_some_iff.mp q).1
theorem StD.app {st : Nat} {h t : List Ob} (S : StD st h) : StD st (h ++ t) := by
  have := S.lt
  obtain ⟨o, q, d⟩ := S
  exact ⟨o, by rw [List.getElem?_append_left this]; exact q, d⟩
theorem StD.set {st k : Nat} {h : List Ob} {o : Ob} (S : StD st h) (n : k ≠ st) : StD st (h.set k o) := by
  obtain ⟨x, q, d⟩ := S
  exact ⟨x, by rw [List.getElem?_set_ne n]; exact q, d⟩
theorem drawB {st : Nat} {h : List Ob} (S : StD st h) (m : Int) (hm : 0 < m) (hl : m.natAbs.log2 < 9000) : ∃ r h', F_law_drawn [.ref st, .int m] h = .ok (.int r) h' ∧ 0 ≤ r ∧ r < m ∧ StD st h' ∧ Keep st h h' := by
  obtain ⟨o, q, d⟩ := S
  obtain ⟨r, o', e, h1, h2, d'⟩ := drawn_ok q d hm hl
  exact ⟨r, _, e, h1, h2, ⟨o', at_set q o', d'⟩, by simp, fun k hk => by simp [List.getElem?_set, Ne.symm hk]⟩
theorem seven {r : Int} (h0 : 0 ≤ r) (h1 : r < 7) : r = 0 ∨ r = 1 ∨ r = 2 ∨ r = 3 ∨ r = 4 ∨ r = 5 ∨ r = 6 := by omega
/-! deeds, plainly -/
inductive W0 where | halt | rest | back
deriving DecidableEq
inductive W1 where | say | ask | push | pop
deriving DecidableEq
inductive W2 where | add | less | and | or | xor | left | right | turn
deriving DecidableEq
inductive Wn where | always | zero | some | carry | clear | minus | over
deriving DecidableEq
def W0.s : W0 → String | .halt => "halt" | .rest => "rest" | .back => "back"
def W1.s : W1 → String | .say => "say" | .ask => "ask" | .push => "push" | .pop => "pop"
def W2.s : W2 → String | .add => "add" | .less => "less" | .and => "and" | .or => "or" | .xor => "xor" | .left => "left" | .right => "right" | .turn => "turn"
def Wn.s : Wn → String | .always => "always" | .zero => "zero" | .some => "some" | .carry => "carry" | .clear => "clear" | .minus => "minus" | .over => "over"
def W0.n : W0 → Int | .halt => 0 | .rest => 1 | .back => 2
def W1.n : W1 → Int | .say => 3 | .ask => 4 | .push => 5 | .pop => 6
def W2.n : W2 → Int | .add => 0 | .less => 1 | .and => 2 | .or => 3 | .xor => 4 | .left => 5 | .right => 6 | .turn => 7
def Wn.n : Wn → Int | .always => 0 | .zero => 1 | .some => 2 | .carry => 3 | .clear => 4 | .minus => 5 | .over => 6
inductive Dk where
  | p0 (w : W0) | p1 (w : W1) (a : Int) | p2 (w : W2) (d a b : Int) | plus (d a n : Int) | set (d n : Int) | high (d n : Int) | load (d a n : Int) | store (d a n : Int) | jump (w : Wn) (g : Int) (far : Bool) | call (g : Int) (far : Bool)
deriving DecidableEq
def Dk.toD : Dk → D
  | .p0 w => .tup [.str (Str.ofString w.s)]
  | .p1 w a => .tup [.str (Str.ofString w.s), .int a]
  | .p2 w d a b => .tup [.str (Str.ofString w.s), .int d, .int a, .int b]
  | .plus d a n => .tup [.str "plus", .int d, .int a, .int n]
  | .set d n => .tup [.str "set", .int d, .int n]
  | .high d n => .tup [.str "high", .int d, .int n]
  | .load d a n => .tup [.str "load", .int d, .int a, .int n]
  | .store d a n => .tup [.str "store", .int d, .int a, .int n]
  | .jump w g far => .tup [.str "jump", .str (Str.ofString w.s), .int g, .bl far]
  | .call g far => .tup [.str "call", .int g, .bl far]
abbrev Rg (a : Int) : Prop := 0 ≤ a ∧ a < 8
/-- a deed that may stand at a place -/
def Dk.ok (p : Int) : Dk → Prop
  | .p0 _ => True
  | .p1 _ a => Rg a
  | .p2 _ d a b => Rg d ∧ Rg a ∧ Rg b
  | .plus d a n => Rg d ∧ Rg a ∧ -32 ≤ n ∧ n < 32
  | .set d n => Rg d ∧ 0 ≤ n ∧ n < 512
  | .high d n => Rg d ∧ 0 ≤ n ∧ n < 128
  | .load d a n => Rg d ∧ Rg a ∧ 0 ≤ n ∧ n < 64
  | .store d a n => Rg d ∧ Rg a ∧ 0 ≤ n ∧ n < 64
  | .jump _ g far => 0 ≤ g ∧ g ≤ 65535 ∧ (far = false → p - 15 ≤ g ∧ g ≤ p + 16)
  | .call g far => 0 ≤ g ∧ g ≤ 65535 ∧ (far = false → p - 15 ≤ g ∧ g ≤ p + 16)
def Dk.words (p : Int) : Dk → List Int
  | .p0 w => [w.n * 512]
  | .p1 w a => [w.n * 512 + a * 64]
  | .p2 w d a b => [4096 + d * 512 + a * 64 + b * 8 + w.n]
  | .plus d a n => [8192 + d * 512 + a * 64 + n % 64]
  | .set d n => [12288 + d * 512 + n]
  | .high d n => [16384 + d * 512 + n]
  | .load d a n => [20480 + d * 512 + a * 64 + n % 64]
  | .store d a n => [24576 + d * 512 + a * 64 + n % 64]
  | .jump w g true => [32768 + w.n * 512, g]
  | .jump w g false => [28672 + w.n * 512 + (g - p - 1) % 32]
  | .call g true => [40960, g]
  | .call g false => [36864 + (g - p - 1) % 32]
abbrev Wd (w : Int) : Prop := 0 ≤ w ∧ w < 65536
theorem Dk.words_ok {p : Int} {k : Dk} (o : k.ok p) : (∀ w ∈ k.words p, Wd w) ∧ (k.words p).length ≤ 2 ∧ 0 < (k.words p).length := by
  cases k with
  | p0 w => cases w <;> simp [Dk.words, W0.n] <;> omega
  | p1 w a =>
    simp only [Dk.ok] at o
    cases w <;> simp [Dk.words, W1.n] <;> omega
  | p2 w d a b =>
    simp only [Dk.ok] at o
    cases w <;> simp [Dk.words, W2.n] <;> omega
  | plus d a n =>
    simp only [Dk.ok] at o
    simp [Dk.words]
    omega
  | set d n =>
    simp only [Dk.ok] at o
    simp [Dk.words]
    omega
  | high d n =>
    simp only [Dk.ok] at o
    simp [Dk.words]
    omega
  | load d a n =>
    simp only [Dk.ok] at o
    simp [Dk.words]
    omega
  | store d a n =>
    simp only [Dk.ok] at o
    simp [Dk.words]
    omega
  | jump w g far =>
    simp only [Dk.ok] at o
    cases far <;> cases w <;> simp [Dk.words, Wn.n] <;> omega
  | call g far =>
    simp only [Dk.ok] at o
    cases far <;> simp [Dk.words] <;> omega
def w0 (d : Int) : W0 := if d = 0 then .halt else if d = 1 then .rest else .back
def w1 (d : Int) : W1 := if d = 3 then .say else if d = 4 then .ask else if d = 5 then .push else .pop
def w2 (d : Int) : W2 := if d = 0 then .add else if d = 1 then .less else if d = 2 then .and else if d = 3 then .or else if d = 4 then .xor else if d = 5 then .left else if d = 6 then .right else .turn
def wn (d : Int) : Wn := if d = 0 then .always else if d = 1 then .zero else if d = 2 then .some else if d = 3 then .carry else if d = 4 then .clear else if d = 5 then .minus else .over
/-- the deed that a word is, at a place; nx: the word behind -/
def decode (w p : Int) (nx : Option Int) : Option (Dk × Int) :=
  if w / 4096 = 0 then (if 0 < w % 64 ∨ w / 512 % 8 = 7 ∨ (w / 512 % 8 < 3 ∧ 0 < w / 64 % 8) then none else if w / 512 % 8 < 3 then some (.p0 (w0 (w / 512 % 8)), 1) else some (.p1 (w1 (w / 512 % 8)) (w / 64 % 8), 1))
  else if w / 4096 = 1 then some (.p2 (w2 (w % 8)) (w / 512 % 8) (w / 64 % 8) (w / 8 % 8), 1)
  else if w / 4096 = 2 then some (.plus (w / 512 % 8) (w / 64 % 8) (if 31 < w % 64 then w % 64 - 64 else w % 64), 1)
  else if w / 4096 = 3 then some (.set (w / 512 % 8) (w % 512), 1)
  else if w / 4096 = 4 then (if w % 512 < 128 then some (.high (w / 512 % 8) (w % 512), 1) else none)
  else if w / 4096 = 5 then some (.load (w / 512 % 8) (w / 64 % 8) (w % 64), 1)
  else if w / 4096 = 6 then some (.store (w / 512 % 8) (w / 64 % 8) (w % 64), 1)
  else if w / 4096 = 7 then (if w / 512 % 8 < 7 ∧ w % 512 < 32 ∧ 0 ≤ p + 1 + w % 32 - (if 15 < w % 32 then 32 else 0) then some (.jump (wn (w / 512 % 8)) (p + 1 + w % 32 - (if 15 < w % 32 then 32 else 0)) false, 1) else none)
  else if w / 4096 = 9 then (if w % 4096 < 32 ∧ 0 ≤ p + 1 + w % 32 - (if 15 < w % 32 then 32 else 0) then some (.call (p + 1 + w % 32 - (if 15 < w % 32 then 32 else 0)) false, 1) else none)
  else match nx with
    | none => none
    | some v => if w / 4096 = 8 then (if w / 512 % 8 < 7 ∧ w % 512 = 0 then some (.jump (wn (w / 512 % 8)) v true, 2) else none)
      else if w / 4096 = 10 then (if w % 4096 = 0 then some (.call v true, 2) else none) else none
def decD : Option (Dk × Int) → D
  | none => .non
  | some (k, n) => .tup [k.toD, .int n]
end Lk04


set_option autoImplicit false
set_option Elab.async false
set_option linter.all false
set_option maxRecDepth 100000
set_option maxHeartbeats 4000000
namespace Lk04
open PySem PySem.Spec PyProof.Rows L2 Bm Fv
theorem gx_max {h : List Ob} (i j : Int) : maxD h [.int i, .int j] = some (.int (max i j)) := by rw [x_max]; congr 2; omega
theorem gx_min {h : List Ob} (i j : Int) : minD h [.int i, .int j] = some (.int (min i j)) := by rw [x_min]; congr 2; omega
theorem when_at {r : Int} (h0 : 0 ≤ r) (h1 : r < 7) : ∃ w : Wn, atI [D.str "always", .str "zero", .str "some", .str "carry", .str "clear", .str "minus", .str "over"] r = some (.str (Str.ofString w.s)) := by
  rcases seven h0 h1 with rfl | rfl | rfl | rfl | rfl | rfl | rfl
  · exact ⟨.always, rfl⟩
  · exact ⟨.zero, rfl⟩
  · exact ⟨.some, rfl⟩
  · exact ⟨.carry, rfl⟩
  · exact ⟨.clear, rfl⟩
  · exact ⟨.minus, rfl⟩
  · exact ⟨.over, rfl⟩
theorem deed_ok {st : Nat} {h : List Ob} (S : StD st h) {p most : Int} (hp0 : 0 ≤ p) (hp1 : p ≤ 1000) (hm0 : 0 ≤ most) (hm1 : most ≤ 65535) : ∃ k h', F_law_deed [.ref st, .int p, .int most] h = .ok (Dk.toD k) h' ∧ k.ok p ∧ StD st h' ∧ Keep st h h' := by
  obtain ⟨w, h1, e1, w0, w1, S1, K1⟩ := draw S 10 (by decide) (by decide)
  obtain ⟨d, h2, e2, d0, d1, S2, K2⟩ := draw S1 8 (by decide) (by decide)
  obtain ⟨a, h3, e3, a0, a1, S3, K3⟩ := draw S2 8 (by decide) (by decide)
  obtain ⟨b, h4, e4, b0, b1, S4, K4⟩ := draw S3 8 (by decide) (by decide)
  have K : Keep st h h4 := ((K1.trans K2).trans K3).trans K4
  by_cases c2 : w < 2
  · obtain ⟨r, h5, e5, r0, r1, S5, K5⟩ := draw S4 7 (by decide) (by decide)
    rcases seven r0 r1 with rfl | rfl | rfl | rfl | rfl | rfl | rfl
    · exact ⟨.p0 .halt, h5, by simp [Dk.toD, W0.s, F_law_deed, B_law_deed, e1, e2, e3, e4, e5, c2, l_plain], True.intro, S5, K.trans K5⟩
    · exact ⟨.p0 .rest, h5, by simp [Dk.toD, W0.s, F_law_deed, B_law_deed, e1, e2, e3, e4, e5, c2, l_plain], True.intro, S5, K.trans K5⟩
    · exact ⟨.p0 .back, h5, by simp [Dk.toD, W0.s, F_law_deed, B_law_deed, e1, e2, e3, e4, e5, c2, l_plain], True.intro, S5, K.trans K5⟩
    · exact ⟨.p1 .say a, h5, by simp [Dk.toD, W1.s, F_law_deed, B_law_deed, e1, e2, e3, e4, e5, c2, l_plain], ⟨a0, a1⟩, S5, K.trans K5⟩
    · exact ⟨.p1 .ask a, h5, by simp [Dk.toD, W1.s, F_law_deed, B_law_deed, e1, e2, e3, e4, e5, c2, l_plain], ⟨a0, a1⟩, S5, K.trans K5⟩
    · exact ⟨.p1 .push a, h5, by simp [Dk.toD, W1.s, F_law_deed, B_law_deed, e1, e2, e3, e4, e5, c2, l_plain], ⟨a0, a1⟩, S5, K.trans K5⟩
    · exact ⟨.p1 .pop a, h5, by simp [Dk.toD, W1.s, F_law_deed, B_law_deed, e1, e2, e3, e4, e5, c2, l_plain], ⟨a0, a1⟩, S5, K.trans K5⟩
  by_cases c4 : w < 4
  · obtain ⟨r, h5, e5, r0, r1, S5, K5⟩ := draw S4 8 (by decide) (by decide)
    rcases (by omega : r = 0 ∨ r = 1 ∨ r = 2 ∨ r = 3 ∨ r = 4 ∨ r = 5 ∨ r = 6 ∨ r = 7) with rfl | rfl | rfl | rfl | rfl | rfl | rfl | rfl
    · exact ⟨.p2 .add d a b, h5, by simp [Dk.toD, W2.s, F_law_deed, B_law_deed, e1, e2, e3, e4, e5, c2, c4, l_pairs], ⟨⟨d0, d1⟩, ⟨a0, a1⟩, ⟨b0, b1⟩⟩, S5, K.trans K5⟩
    · exact ⟨.p2 .less d a b, h5, by simp [Dk.toD, W2.s, F_law_deed, B_law_deed, e1, e2, e3, e4, e5, c2, c4, l_pairs], ⟨⟨d0, d1⟩, ⟨a0, a1⟩, ⟨b0, b1⟩⟩, S5, K.trans K5⟩
    · exact ⟨.p2 .and d a b, h5, by simp [Dk.toD, W2.s, F_law_deed, B_law_deed, e1, e2, e3, e4, e5, c2, c4, l_pairs], ⟨⟨d0, d1⟩, ⟨a0, a1⟩, ⟨b0, b1⟩⟩, S5, K.trans K5⟩
    · exact ⟨.p2 .or d a b, h5, by simp [Dk.toD, W2.s, F_law_deed, B_law_deed, e1, e2, e3, e4, e5, c2, c4, l_pairs], ⟨⟨d0, d1⟩, ⟨a0, a1⟩, ⟨b0, b1⟩⟩, S5, K.trans K5⟩
    · exact ⟨.p2 .xor d a b, h5, by simp [Dk.toD, W2.s, F_law_deed, B_law_deed, e1, e2, e3, e4, e5, c2, c4, l_pairs], ⟨⟨d0, d1⟩, ⟨a0, a1⟩, ⟨b0, b1⟩⟩, S5, K.trans K5⟩
    · exact ⟨.p2 .left d a b, h5, by simp [Dk.toD, W2.s, F_law_deed, B_law_deed, e1, e2, e3, e4, e5, c2, c4, l_pairs], ⟨⟨d0, d1⟩, ⟨a0, a1⟩, ⟨b0, b1⟩⟩, S5, K.trans K5⟩
    · exact ⟨.p2 .right d a b, h5, by simp [Dk.toD, W2.s, F_law_deed, B_law_deed, e1, e2, e3, e4, e5, c2, c4, l_pairs], ⟨⟨d0, d1⟩, ⟨a0, a1⟩, ⟨b0, b1⟩⟩, S5, K.trans K5⟩
    · exact ⟨.p2 .turn d a b, h5, by simp [Dk.toD, W2.s, F_law_deed, B_law_deed, e1, e2, e3, e4, e5, c2, c4, l_pairs], ⟨⟨d0, d1⟩, ⟨a0, a1⟩, ⟨b0, b1⟩⟩, S5, K.trans K5⟩
  by_cases c8 : w < 8
  · obtain ⟨r, h5, e5, r0, r1, S5, K5⟩ := draw S4 2 (by decide) (by decide)
    have K' : Keep st h h5 := K.trans K5
    rcases (by omega : w = 4 ∨ w = 5 ∨ w = 6 ∨ w = 7) with rfl | rfl | rfl | rfl
    · obtain ⟨n, h6, e6, n0, n1, S6, K6⟩ := number_ok S5 (lo := -32) (hi := 31) (by decide) (by decide)
      rcases (by omega : r = 0 ∨ r = 1) with rfl | rfl
      · exact ⟨.plus d a n, h6, by simp [Dk.toD, F_law_deed, B_law_deed, e1, e2, e3, e4, e5, e6, sizeLine_eq], ⟨⟨d0, d1⟩, ⟨a0, a1⟩, n0, by omega⟩, S6, K'.trans K6⟩
      · exact ⟨.plus d a n, h6, by simp [Dk.toD, F_law_deed, B_law_deed, e1, e2, e3, e4, e5, e6, sizeLine_eq], ⟨⟨d0, d1⟩, ⟨a0, a1⟩, n0, by omega⟩, S6, K'.trans K6⟩
    · obtain ⟨n, h6, e6, n0, n1, S6, K6⟩ := number_ok S5 (lo := 0) (hi := 511) (by decide) (by decide)
      rcases (by omega : r = 0 ∨ r = 1) with rfl | rfl
      · exact ⟨.set d n, h6, by simp [Dk.toD, F_law_deed, B_law_deed, e1, e2, e3, e4, e5, e6, sizeLine_eq], ⟨⟨d0, d1⟩, n0, by omega⟩, S6, K'.trans K6⟩
      · exact ⟨.set d n, h6, by simp [Dk.toD, F_law_deed, B_law_deed, e1, e2, e3, e4, e5, e6, sizeLine_eq], ⟨⟨d0, d1⟩, n0, by omega⟩, S6, K'.trans K6⟩
    · obtain ⟨n, h6, e6, n0, n1, S6, K6⟩ := number_ok S5 (lo := 0) (hi := 127) (by decide) (by decide)
      rcases (by omega : r = 0 ∨ r = 1) with rfl | rfl
      · exact ⟨.high d n, h6, by simp [Dk.toD, F_law_deed, B_law_deed, e1, e2, e3, e4, e5, e6, sizeLine_eq], ⟨⟨d0, d1⟩, n0, by omega⟩, S6, K'.trans K6⟩
      · exact ⟨.high d n, h6, by simp [Dk.toD, F_law_deed, B_law_deed, e1, e2, e3, e4, e5, e6, sizeLine_eq], ⟨⟨d0, d1⟩, n0, by omega⟩, S6, K'.trans K6⟩
    · obtain ⟨n, h6, e6, n0, n1, S6, K6⟩ := number_ok S5 (lo := 0) (hi := 63) (by decide) (by decide)
      rcases (by omega : r = 0 ∨ r = 1) with rfl | rfl
      · exact ⟨.load d a n, h6, by simp [Dk.toD, F_law_deed, B_law_deed, e1, e2, e3, e4, e5, e6, sizeLine_eq], ⟨⟨d0, d1⟩, ⟨a0, a1⟩, n0, by omega⟩, S6, K'.trans K6⟩
      · exact ⟨.store d a n, h6, by simp [Dk.toD, F_law_deed, B_law_deed, e1, e2, e3, e4, e5, e6, sizeLine_eq], ⟨⟨d0, d1⟩, ⟨a0, a1⟩, n0, by omega⟩, S6, K'.trans K6⟩
  · obtain ⟨f, h5, e5, f0, f1, S5, K5⟩ := draw S4 3 (by decide) (by decide)
    obtain ⟨t, h6, e6, t0, t1, S6, K6⟩ := draw S5 (most + 1) (by omega) (by omega)
    have K' : Keep st h h6 := (K.trans K5).trans K6
    by_cases cf : f = 0
    · subst cf
      by_cases c9 : w = 8
      · obtain ⟨r, h7, e7, r0, r1, S7, K7⟩ := draw S6 7 (by decide) (by decide)
        obtain ⟨x, ex⟩ := when_at r0 r1
        subst c9
        exact ⟨.jump x t true, h7, by simp [Dk.toD, F_law_deed, B_law_deed, e1, e2, e3, e4, e5, e6, -x_max, -x_min, gx_max, gx_min, x_eqi, e7, l_times, ex], ⟨by omega, by omega, fun h => nomatch h⟩, S7, K'.trans K7⟩
      · exact ⟨.call t true, h6, by simp [Dk.toD, F_law_deed, B_law_deed, e1, e2, e3, e4, e5, e6, -x_max, -x_min, gx_max, gx_min, x_eqi, c2, c4, c8, c9], ⟨by omega, by omega, fun h => nomatch h⟩, S6, K'⟩
    · obtain ⟨g, eg⟩ : ∃ g, g = max 0 (min most (max (p - 15) (min (p + 16) t))) := ⟨_, rfl⟩
      by_cases ca : p - 15 ≤ g
      · by_cases cb : g ≤ p + 16
        · by_cases c9 : w = 8
          · obtain ⟨r, h7, e7, r0, r1, S7, K7⟩ := draw S6 7 (by decide) (by decide)
            obtain ⟨x, ex⟩ := when_at r0 r1
            subst c9
            exact ⟨.jump x g false, h7, by simp [Dk.toD, F_law_deed, B_law_deed, e1, e2, e3, e4, e5, e6, -x_max, -x_min, gx_max, gx_min, cf, ← eg, ca, cb, e7, l_times, ex], ⟨by omega, by omega, fun _ => ⟨ca, cb⟩⟩, S7, K'.trans K7⟩
          · exact ⟨.call g false, h6, by simp [Dk.toD, F_law_deed, B_law_deed, e1, e2, e3, e4, e5, e6, -x_max, -x_min, gx_max, gx_min, cf, ← eg, ca, cb, c2, c4, c8, c9], ⟨by omega, by omega, fun _ => ⟨ca, cb⟩⟩, S6, K'⟩
        · by_cases c9 : w = 8
          · obtain ⟨r, h7, e7, r0, r1, S7, K7⟩ := draw S6 7 (by decide) (by decide)
            obtain ⟨x, ex⟩ := when_at r0 r1
            subst c9
            exact ⟨.jump x g true, h7, by simp [Dk.toD, F_law_deed, B_law_deed, e1, e2, e3, e4, e5, e6, -x_max, -x_min, gx_max, gx_min, cf, ← eg, ca, cb, e7, l_times, ex], ⟨by omega, by omega, fun h => nomatch h⟩, S7, K'.trans K7⟩
          · exact ⟨.call g true, h6, by simp [Dk.toD, F_law_deed, B_law_deed, e1, e2, e3, e4, e5, e6, -x_max, -x_min, gx_max, gx_min, cf, ← eg, ca, cb, c2, c4, c8, c9], ⟨by omega, by omega, fun h => nomatch h⟩, S6, K'⟩
      · by_cases c9 : w = 8
        · obtain ⟨r, h7, e7, r0, r1, S7, K7⟩ := draw S6 7 (by decide) (by decide)
          obtain ⟨x, ex⟩ := when_at r0 r1
          subst c9
          exact ⟨.jump x g true, h7, by simp [Dk.toD, F_law_deed, B_law_deed, e1, e2, e3, e4, e5, e6, -x_max, -x_min, gx_max, gx_min, cf, ← eg, ca, e7, l_times, ex], ⟨by omega, by omega, fun h => nomatch h⟩, S7, K'.trans K7⟩
        · exact ⟨.call g true, h6, by simp [Dk.toD, F_law_deed, B_law_deed, e1, e2, e3, e4, e5, e6, -x_max, -x_min, gx_max, gx_min, cf, ← eg, ca, c2, c4, c8, c9], ⟨by omega, by omega, fun h => nomatch h⟩, S6, K'⟩
end Lk04


set_option autoImplicit false
set_option Elab.async false
set_option linter.all false
set_option maxRecDepth 100000
set_option maxHeartbeats 4000000
namespace Lk04
open PySem PySem.Spec PyProof.Rows L2 Bm Fv
section
variable {img : D} {xs : List Int} (I : Im img xs) {p w : Int} (hx : atI (xs.map D.int) p = some (.int w))
include I hx
theorem at_ok (hp0 : 0 ≤ p) (hp : p < xs.length) (h0 : 0 ≤ w) (h1 : w < 65536) (h : List Ob) : F_law_deed_at [img, .int p] h = .ok (decD (decode w p xs[(p + 1).toNat]?)) h := by
  have e1 : w % 4096 / 512 = w / 512 % 8 := by omega
  have e2 : w % 4096 / 64 % 8 = w / 64 % 8 := by omega
  have e3 : w % 4096 / 8 % 8 = w / 8 % 8 := by omega
  have e4 : w % 4096 % 8 = w % 8 := by omega
  have e5 : w % 4096 % 64 = w % 64 := by omega
  have e6 : w % 4096 % 512 = w % 512 := by omega
  have e7 : w % 4096 % 32 = w % 32 := by omega
  have f0 : 0 ≤ w / 4096 := by omega
  have f1 : w / 4096 < 16 := by omega
  have nx : (p + 1 = xs.length ∧ xs[(p + 1).toNat]? = none) ∨ (¬ p + 1 = xs.length ∧ ∃ v, xs[(p + 1).toNat]? = some v ∧ atI (xs.map D.int) (p + 1) = some (.int v)) := by
    by_cases m : p + 1 = xs.length
    · exact .inl ⟨m, by simp; omega⟩
    · refine .inr ⟨m, xs[(p + 1).toNat]'(by omega), by simp, atI_of (by omega) (by simp <;> omega)⟩
  obtain ⟨f, hf⟩ : ∃ f, f = w / 4096 := ⟨_, rfl⟩
  have hd0 : 0 ≤ w / 512 % 8 := by omega
  have hd1 : w / 512 % 8 < 8 := by omega
  rcases (by omega : f = 0 ∨ f = 1 ∨ f = 2 ∨ f = 3 ∨ f = 4 ∨ f = 5 ∨ f = 6 ∨ f = 7 ∨ f = 8 ∨ f = 9 ∨ f = 10 ∨ (10 < f ∧ f < 16)) with q | q | q | q | q | q | q | q | q | q | q | q
  · have f' : w / 4096 = 0 := by omega
    have e0 : w % 4096 = w := by omega
    have e8 : w / 512 % 8 = w / 512 := by omega
    by_cases c : 0 < w % 64
    · rcases eight (r := w / 512) (by omega) (by omega) with d | d | d | d | d | d | d | d <;> simp [F_law_deed_at, B_law_deed_at, I.ix, I.len, hx, divmodD, two, f', e0, lg512, lg64, lg8, l_plain, sizeLine_eq, d, c, decode, decD]
    · by_cases g : 0 < w / 64 % 8 <;> rcases eight (r := w / 512) (by omega) (by omega) with d | d | d | d | d | d | d | d <;> simp [F_law_deed_at, B_law_deed_at, I.ix, I.len, hx, divmodD, two, f', e0, lg512, lg64, lg8, l_plain, sizeLine_eq, d, c, g, decode, decD, w0, w1, Dk.toD, W0.s, W1.s]
  · have f' : w / 4096 = 1 := by omega
    rcases eight (r := w % 8) (by omega) (by omega) with d | d | d | d | d | d | d | d <;> simp [F_law_deed_at, B_law_deed_at, I.ix, I.len, hx, divmodD, two, f', e1, e2, e3, e4, lg512, lg64, lg8, l_pairs, sizeLine_eq, d, decode, decD, w2, Dk.toD, W2.s]
  · have f' : w / 4096 = 2 := by omega
    by_cases c : 31 < w % 64 <;> simp [F_law_deed_at, B_law_deed_at, I.ix, I.len, hx, divmodD, two, f', e1, e2, e3, e4, e5, lg512, lg64, lg8, cm64l, sizeLine_eq, c, decode, decD, Dk.toD]
  · have f' : w / 4096 = 3 := by omega
    simp [F_law_deed_at, B_law_deed_at, I.ix, I.len, hx, divmodD, two, f', e1, e2, e3, e4, e5, e6, lg512, lg64, lg8, cm64l, sizeLine_eq, decode, decD, Dk.toD]
  · have f' : w / 4096 = 4 := by omega
    rcases nx with ⟨m, nx⟩ | ⟨m, v, nx, nx'⟩ <;> by_cases c : w % 512 < 128 <;> simp [F_law_deed_at, B_law_deed_at, I.ix, I.len, hx, divmodD, two, f', e1, e2, e3, e4, e5, e6, e7, lg512, lg64, lg8, cm64l, cm32l, sizeLine_eq, c, m, nx, decode, decD, Dk.toD]
  · have f' : w / 4096 = 5 := by omega
    simp [F_law_deed_at, B_law_deed_at, I.ix, I.len, hx, divmodD, two, f', e1, e2, e3, e4, e5, e6, lg512, lg64, lg8, cm64l, sizeLine_eq, decode, decD, Dk.toD]
  · have f' : w / 4096 = 6 := by omega
    simp [F_law_deed_at, B_law_deed_at, I.ix, I.len, hx, divmodD, two, f', e1, e2, e3, e4, e5, e6, lg512, lg64, lg8, cm64l, sizeLine_eq, decode, decD, Dk.toD]
  · have f' : w / 4096 = 7 := by omega
    by_cases d : w / 512 % 8 < 7
    · by_cases c : w % 512 < 32
      · by_cases k : 15 < w % 32
        · by_cases z : 32 ≤ p + 1 + w % 32
          · rcases seven hd0 d with d' | d' | d' | d' | d' | d' | d' <;> simp [F_law_deed_at, B_law_deed_at, I.ix, I.len, hx, divmodD, two, f', e1, e2, e3, e4, e5, e6, e7, lg512, lg64, lg8, cm64l, cm32l, sizeLine_eq, decode, decD, Dk.toD, c, k, z, d', wn, Wn.s, l_times]
          · rcases nx with ⟨m, nx⟩ | ⟨m, v, nx, nx'⟩
            · simp [F_law_deed_at, B_law_deed_at, I.ix, I.len, hx, divmodD, two, f', e1, e2, e3, e4, e5, e6, e7, lg512, lg64, lg8, cm64l, cm32l, sizeLine_eq, decode, decD, Dk.toD, d, c, k, z, m, nx, show ¬ (32 ≤ (xs.length : Int) + w % 32) by omega]
            · simp [F_law_deed_at, B_law_deed_at, I.ix, I.len, hx, divmodD, two, f', e1, e2, e3, e4, e5, e6, e7, lg512, lg64, lg8, cm64l, cm32l, sizeLine_eq, decode, decD, Dk.toD, d, c, k, z, m, nx]
        · have z : 0 ≤ p + 1 + w % 32 := by omega
          rcases seven hd0 d with d' | d' | d' | d' | d' | d' | d' <;> simp [F_law_deed_at, B_law_deed_at, I.ix, I.len, hx, divmodD, two, f', e1, e2, e3, e4, e5, e6, e7, lg512, lg64, lg8, cm64l, cm32l, sizeLine_eq, decode, decD, Dk.toD, c, k, z, d', wn, Wn.s, l_times]
      · rcases nx with ⟨m, nx⟩ | ⟨m, v, nx, nx'⟩ <;> simp [F_law_deed_at, B_law_deed_at, I.ix, I.len, hx, divmodD, two, f', e1, e2, e3, e4, e5, e6, e7, lg512, lg64, lg8, cm64l, cm32l, sizeLine_eq, decode, decD, Dk.toD, d, c, m, nx]
    · rcases nx with ⟨m, nx⟩ | ⟨m, v, nx, nx'⟩ <;> simp [F_law_deed_at, B_law_deed_at, I.ix, I.len, hx, divmodD, two, f', e1, e2, e3, e4, e5, e6, e7, lg512, lg64, lg8, cm64l, cm32l, sizeLine_eq, decode, decD, Dk.toD, d, m, nx]
  · have f' : w / 4096 = 8 := by omega
    rcases nx with ⟨m, nx⟩ | ⟨m, v, nx, nx'⟩
    · simp [F_law_deed_at, B_law_deed_at, I.ix, I.len, hx, divmodD, two, f', e1, e2, e3, e4, e5, e6, e7, lg512, lg64, lg8, cm64l, cm32l, sizeLine_eq, decode, decD, Dk.toD, m, nx]
    · by_cases d : w / 512 % 8 < 7
      · by_cases c : w % 512 = 0
        · rcases seven hd0 d with d' | d' | d' | d' | d' | d' | d' <;> simp [F_law_deed_at, B_law_deed_at, I.ix, I.len, hx, divmodD, two, f', e1, e2, e3, e4, e5, e6, e7, lg512, lg64, lg8, cm64l, cm32l, sizeLine_eq, decode, decD, Dk.toD, c, d', m, nx, nx', wn, Wn.s, l_times]
        · simp [F_law_deed_at, B_law_deed_at, I.ix, I.len, hx, divmodD, two, f', e1, e2, e3, e4, e5, e6, e7, lg512, lg64, lg8, cm64l, cm32l, sizeLine_eq, decode, decD, Dk.toD, d, c, m, nx]
      · simp [F_law_deed_at, B_law_deed_at, I.ix, I.len, hx, divmodD, two, f', e1, e2, e3, e4, e5, e6, e7, lg512, lg64, lg8, cm64l, cm32l, sizeLine_eq, decode, decD, Dk.toD, d, m, nx]
  · have f' : w / 4096 = 9 := by omega
    by_cases c : w % 4096 < 32
    · by_cases k : 15 < w % 32
      · by_cases z : 32 ≤ p + 1 + w % 32
        · simp [F_law_deed_at, B_law_deed_at, I.ix, I.len, hx, divmodD, two, f', e1, e2, e3, e4, e5, e6, e7, lg512, lg64, lg8, cm64l, cm32l, sizeLine_eq, decode, decD, Dk.toD, c, k, z]
        · rcases nx with ⟨m, nx⟩ | ⟨m, v, nx, nx'⟩
          · simp [F_law_deed_at, B_law_deed_at, I.ix, I.len, hx, divmodD, two, f', e1, e2, e3, e4, e5, e6, e7, lg512, lg64, lg8, cm64l, cm32l, sizeLine_eq, decode, decD, Dk.toD, c, k, z, m, nx, show ¬ (32 ≤ (xs.length : Int) + w % 32) by omega]
          · simp [F_law_deed_at, B_law_deed_at, I.ix, I.len, hx, divmodD, two, f', e1, e2, e3, e4, e5, e6, e7, lg512, lg64, lg8, cm64l, cm32l, sizeLine_eq, decode, decD, Dk.toD, c, k, z, m, nx]
      · have z : 0 ≤ p + 1 + w % 32 := by omega
        simp [F_law_deed_at, B_law_deed_at, I.ix, I.len, hx, divmodD, two, f', e1, e2, e3, e4, e5, e6, e7, lg512, lg64, lg8, cm64l, cm32l, sizeLine_eq, decode, decD, Dk.toD, c, k, z]
    · rcases nx with ⟨m, nx⟩ | ⟨m, v, nx, nx'⟩ <;> simp [F_law_deed_at, B_law_deed_at, I.ix, I.len, hx, divmodD, two, f', e1, e2, e3, e4, e5, e6, e7, lg512, lg64, lg8, cm64l, cm32l, sizeLine_eq, decode, decD, Dk.toD, c, m, nx]
  · have f' : w / 4096 = 10 := by omega
    rcases nx with ⟨m, nx⟩ | ⟨m, v, nx, nx'⟩
    · simp [F_law_deed_at, B_law_deed_at, I.ix, I.len, hx, divmodD, two, f', e1, e2, e3, e4, e5, e6, e7, lg512, lg64, lg8, cm64l, cm32l, sizeLine_eq, decode, decD, Dk.toD, m, nx]
    · by_cases c : w % 4096 = 0 <;> simp [F_law_deed_at, B_law_deed_at, I.ix, I.len, hx, divmodD, two, f', e1, e2, e3, e4, e5, e6, e7, lg512, lg64, lg8, cm64l, cm32l, sizeLine_eq, decode, decD, Dk.toD, c, m, nx, nx']
  · have k0 : f ≠ 0 ∧ f ≠ 1 ∧ f ≠ 2 ∧ f ≠ 3 ∧ f ≠ 4 ∧ f ≠ 5 ∧ f ≠ 6 ∧ f ≠ 7 ∧ f ≠ 8 ∧ f ≠ 9 ∧ f ≠ 10 := by omega
    have ks : ¬ (2 = f) ∧ ¬ (5 = f) ∧ ¬ (6 = f) := by omega
    have f' : w / 4096 = f := hf.symm
    rcases nx with ⟨m, nx⟩ | ⟨m, v, nx, nx'⟩ <;> simp [F_law_deed_at, B_law_deed_at, I.ix, I.len, hx, divmodD, two, f', e1, e2, e3, e4, e5, e6, e7, lg512, lg64, lg8, cm64l, cm32l, sizeLine_eq, decode, decD, Dk.toD, k0, ks, m, nx]
end
end Lk04


set_option autoImplicit false
set_option Elab.async false
set_option linter.all false
set_option maxRecDepth 100000
set_option maxHeartbeats 4000000
namespace Lk04
open PySem PySem.Spec PyProof.Rows L2 Bm Fv
section
variable {img : D} {xs : List Int} (I : Im img xs) {p w : Int} (hx : atI (xs.map D.int) p = some (.int w))
include I hx
theorem both_all (hp0 : 0 ≤ p) (hp : p < xs.length) (h0 : 0 ≤ w) (h1 : w < 65536) : Both img p := by
  rcases (by omega : w < 4096 ∨ (4096 ≤ w ∧ w < 8192) ∨ (8192 ≤ w ∧ w < 12288) ∨ (12288 ≤ w ∧ w < 16384) ∨ (16384 ≤ w ∧ w < 20480) ∨ (20480 ≤ w ∧ w < 24576) ∨ (24576 ≤ w ∧ w < 28672) ∨ (28672 ≤ w ∧ w < 32768) ∨ (32768 ≤ w ∧ w < 36864) ∨ (36864 ≤ w ∧ w < 40960) ∨ (40960 ≤ w ∧ w < 45056) ∨ 45056 ≤ w) with c | c | c | c | c | c | c | c | c | c | c | c
  · exact both_plain I hx h0 c
  · exact both_pair I hx c.1 c.2
  · exact both_plus I hx c.1 c.2
  · exact both_set I hx c.1 c.2
  · exact both_high I hx c.1 c.2
  · exact both_load I hx c.1 c.2
  · exact both_store I hx c.1 c.2
  · exact both_jump I hx c.1 c.2
  · exact both_farj I hx hp hp0 c.1 c.2
  · exact both_call I hx c.1 c.2
  · exact both_farc I hx hp hp0 c.1 c.2
  · exact both_none I hx c h1
theorem unp_dec (hp0 : 0 ≤ p) (hp : p < xs.length) (h0 : 0 ≤ w) (h1 : w < 65536) (h : List Ob) : F_Book_unpacked [bookD, img, .int p] h = (match decode w p xs[(p + 1).toNat]? with
    | none => .ex "NoDeed" [] h
    | some (k, n) => .ok (.tup [k.toD, .int n]) h) := by
  have a := at_ok I hx hp0 hp h0 h1 h
  rcases both_all I hx hp0 hp h0 h1 h with ⟨d, n, e1, e2⟩ | ⟨e1, e2⟩
  · rw [a] at e1
    rw [e2]
    cases q : decode w p xs[(p + 1).toNat]? with
    | none =>
      rw [q] at e1
      simp [decD] at e1
    | some kn =>
      obtain ⟨k, m⟩ := kn
      rw [q] at e1
      simp [decD] at e1
      simp [e1]
  · rw [a] at e1
    rw [e2]
    cases q : decode w p xs[(p + 1).toNat]? with
    | none => rfl
    | some kn =>
      obtain ⟨k, m⟩ := kn
      rw [q] at e1
      simp [decD] at e1
end
/-- the first that is no word, or 200 -/
def firstBad : List Int → Nat → Option Nat
  | [], _ => none
  | x :: xs, i => if i = 200 ∨ ¬ (0 ≤ x ∧ x ≤ 65535) then some i else firstBad xs (i + 1)
theorem firstBad_none : ∀ {xs : List Int} {i : Nat}, (∀ x ∈ xs, Wd x) → i + xs.length ≤ 200 → firstBad xs i = none
  | [], _, _, _ => rfl
  | x :: xs, i, a, l => by
    have h1 := a x (.head _)
    simp only [List.length_cons] at l
    have : ¬ (i = 200 ∨ ¬ (0 ≤ x ∧ x ≤ 65535)) := by omega
    unfold firstBad
    rw [if_neg this]
    exact firstBad_none (fun y hy => a y (.tail _ hy)) (by omega)
theorem firstBad_word : ∀ {xs : List Int} {i : Nat}, firstBad xs i = none → ∀ x ∈ xs, Wd x
  | [], _, _, _, h => by cases h
  | x :: xs, i, e, y, hy => by
    unfold firstBad at e
    split at e
    · cases e
    · rename_i c
      cases hy with
      | head => omega
      | tail _ h => exact firstBad_word e y h
theorem firstBad_at : ∀ {xs ys : List Int} {x : Int} {i : Nat}, (∀ x ∈ xs, Wd x) → i + xs.length ≤ 200 → ¬ Wd x → firstBad (xs ++ x :: ys) i = some (i + xs.length)
  | [], ys, x, i, a, l, n => by
    show firstBad (x :: ys) i = _
    unfold firstBad
    rw [if_pos (by omega)]
    rfl
  | z :: xs, ys, x, i, a, l, n => by
    have h1 := a z (.head _)
    simp only [List.length_cons] at l
    show firstBad (z :: (xs ++ x :: ys)) i = _
    unfold firstBad
    rw [if_neg (by omega), firstBad_at (fun y hy => a y (.tail _ hy)) (by omega) n]
    simp
    omega
theorem firstBad_long : ∀ {xs : List Int} {i : Nat}, (∀ x ∈ xs, Wd x) → i ≤ 200 → 200 < i + xs.length → firstBad xs i = some 200
  | [], i, a, l, n => by
    simp at n
    omega
  | z :: xs, i, a, l, n => by
    have h1 := a z (.head _)
    simp only [List.length_cons] at n
    unfold firstBad
    by_cases c : i = 200
    · rw [if_pos (.inl c), c]
    · rw [if_neg (by omega)]
      exact firstBad_long (fun y hy => a y (.tail _ hy)) (by omega) (by omega)
noncomputable def need_body : M Fl :=
  (ifS (orM (bM (e2 eqD (eV 1) (ret (.int (200))))) (notM (bM (callM F_is_whole [] (consM (eV 2) (consM (ret (.int (0))) (consM (ret (.int (65535))) nilM)))))))
  (raiseN "BadImage" (consM (eV 1) nilM))
  (ret .nx))
def badR (h : List Ob) : Option Nat → Rs
  | none => .ok .non h
  | some k => .ex "BadImage" [("number", .int (k : Nat))] h
theorem need_loop (a0 : Option D) (h : List Ob) : ∀ (xs : List Int) (i : Nat) (a1 a2 : Option D), ∃ b1 b2, forL (tupG 2 (consG (putS 1) (consG (putS 2) nilG))) need_body ((xs.map D.int).mapIdx fun j x => D.tup [.int ((i + j : Nat) : Int), x]) ⟨[a0, a1, a2], h⟩ =
    (match firstBad xs i with
    | none => .ok .nx ⟨[a0, b1, b2], h⟩
    | some k => .ex "BadImage" [("number", .int (k : Nat))] ⟨[a0, b1, b2], h⟩)
  | [], i, a1, a2 => ⟨a1, a2, rfl⟩
  | x :: xs, i, a1, a2 => by
    obtain ⟨b1, b2, e⟩ := need_loop a0 h xs (i + 1) (some (.int (i : Nat))) (some (.int x))
    have hf : (fun (j : Nat) (x : D) => D.tup [.int ((i + 1 + j : Nat) : Int), x]) = fun (j : Nat) (x : D) => D.tup [.int ((i + (j + 1) : Nat) : Int), x] := by
      funext j x
      rw [Nat.add_assoc, Nat.add_comm 1]
    rw [hf] at e
    by_cases c : i = 200 ∨ ¬ (0 ≤ x ∧ x ≤ 65535)
    · refine ⟨some (.int (i : Nat)), some (.int x), ?_⟩
      unfold firstBad
      rw [if_pos c]
      by_cases c1 : (i : Int) = 200
      · simp [List.mapIdx_cons, tupG, consG, nilG, need_body, c1]
      · have c2 : ¬ (0 ≤ x ∧ x ≤ 65535) := by omega
        have : (decide (0 ≤ x) && decide (x ≤ 65535)) = false := by simp; omega
        simp [List.mapIdx_cons, tupG, consG, nilG, need_body, c1, is_whole_int, this]
    · refine ⟨b1, b2, ?_⟩
      unfold firstBad
      rw [if_neg c, ← e]
      have c1 : ¬ (i : Int) = 200 := by omega
      have c2 : 0 ≤ x := by omega
      have c3 : x ≤ 65535 := by omega
      rw [List.map_cons, List.mapIdx_cons, x_forL1]
      simp [tupG, consG, nilG, need_body, c1, is_whole_int, c2, c3]
theorem needw_ok {img : D} {xs : List Int} (st : stayOf img = some (xs.map .int)) (h : List Ob) : F_need_words [img] h = badR h (firstBad xs 0) := by
  obtain ⟨b1, b2, e⟩ := need_loop (some img) h xs 0 none none
  have hf : ((xs.map D.int).mapIdx fun j x => D.tup [.int ((0 + j : Nat) : Int), x]) = enumL (xs.map D.int) := by
    simp [enumL]
  rw [hf] at e
  have u : B_need_words = forM (enumI (consM (eV 0) nilM)) (tupG 2 (consG (putS 1) (consG (putS 2) nilG))) need_body := rfl
  rw [F_need_words, u]
  cases q : firstBad xs 0 with
  | none =>
    rw [q] at e
    simp [enumI, st, e, badR]
  | some k =>
    rw [q] at e
    simp [enumI, st, e, badR]
def unpR (xs : List Int) (p : Int) (h : List Ob) : Rs := match firstBad xs 0 with
  | some k => .ex "BadImage" [("number", .int (k : Nat))] h
  | none => if 0 ≤ p ∧ p < xs.length then (match xs[p.toNat]? with
    | none => .stuck
    | some w => match decode w p xs[(p + 1).toNat]? with
      | none => .ex "NoDeed" [] h
      | some (k, n) => .ok (.tup [k.toD, .int n]) h) else .ex "BadCount" [] h
theorem unpacked_ok {img : D} {xs : List Int} (I : Im img xs) (st : stayOf img = some (xs.map .int)) (p : Int) (h : List Ob) : F_unpacked [img, .int p] h = unpR xs p h := by
  have nw := needw_ok st h
  unfold unpR
  cases q : firstBad xs 0 with
  | some k =>
    rw [q] at nw
    simp [F_unpacked, B_unpacked, nw, badR]
  | none =>
    rw [q] at nw
    dsimp only
    by_cases c : 0 ≤ p ∧ p < xs.length
    · rw [if_pos c]
      have hl : p.toNat < xs.length := by omega
      have hw := firstBad_word q xs[p.toNat] (List.getElem_mem hl)
      have hx : atI (xs.map D.int) p = some (.int xs[p.toNat]) := atI_of c.1 (by simp [hl])
      have u := unp_dec I hx c.1 c.2 hw.1 hw.2 h
      have c1 : 0 ≤ p := c.1
      have c2 : p ≤ (xs.length : Int) - 1 := by omega
      rw [List.getElem?_eq_getElem hl]
      dsimp only
      cases z : decode xs[p.toNat] p xs[(p + 1).toNat]? with
      | none =>
        rw [z] at u
        simp [F_unpacked, B_unpacked, nw, badR, is_whole_int, I.len, c1, c2, mk_book, u]
      | some kn =>
        rw [z] at u
        simp [F_unpacked, B_unpacked, nw, badR, is_whole_int, I.len, c1, c2, mk_book, u]
    · rw [if_neg c]
      have : (decide (0 ≤ p) && decide (p ≤ (xs.length : Int) - 1)) = false := by simp; omega
      simp [F_unpacked, B_unpacked, nw, badR, is_whole_int, I.len, this]
end Lk04


set_option autoImplicit false
set_option Elab.async false
set_option linter.all false
set_option maxRecDepth 100000
set_option maxHeartbeats 4000000
namespace Lk04
open PySem PySem.Spec PyProof.Rows L2 Bm Fv
theorem ne_new (h : List Ob) : neD (h ++ [.lst []]) (.ref h.length) (.lst []) = some (.bl false) := ne_rnil at_new0 rfl
theorem ofS_app : (("far " : Str) ++ ("jump" : Str) = ("far jump" : Str)) ∧ (("far " : Str) ++ ("call" : Str) = ("far call" : Str)) ∧ ("far " : Str).length = 4 ∧ ("jump" : Str).length = 4 ∧ ("call" : Str).length = 4 := by decide +kernel
theorem n_halt (h : List Ob) : F_numbers_of [.tup [.str "halt"]] h = .ok (.tup [.str "plain", .lst [.int 0, .int 0]]) h := by
  refine fin_ok (h' := h ++ [.lst []]) (d := .tup [.str "plain", .lst [.int 0, .int 0]]) ?_ drops_app (by simp) (by simp) ?_
  · simp [B_numbers_of, isiNames, isiB, eq_tnil, ne_new, ixN, flatS, cut, HT.sIx, sizeLine_eq, ofS_app]
  · show fzW _ _ _ _ = _
    simp [fzW, fzs, mapO, fzN]
theorem n_rest (h : List Ob) : F_numbers_of [.tup [.str "rest"]] h = .ok (.tup [.str "plain", .lst [.int 1, .int 0]]) h := by
  refine fin_ok (h' := h ++ [.lst []]) (d := .tup [.str "plain", .lst [.int 1, .int 0]]) ?_ drops_app (by simp) (by simp) ?_
  · simp [B_numbers_of, isiNames, isiB, eq_tnil, ne_new, ixN, flatS, cut, HT.sIx, sizeLine_eq, ofS_app]
  · show fzW _ _ _ _ = _
    simp [fzW, fzs, mapO, fzN]
theorem n_back (h : List Ob) : F_numbers_of [.tup [.str "back"]] h = .ok (.tup [.str "plain", .lst [.int 2, .int 0]]) h := by
  refine fin_ok (h' := h ++ [.lst []]) (d := .tup [.str "plain", .lst [.int 2, .int 0]]) ?_ drops_app (by simp) (by simp) ?_
  · simp [B_numbers_of, isiNames, isiB, eq_tnil, ne_new, ixN, flatS, cut, HT.sIx, sizeLine_eq, ofS_app]
  · show fzW _ _ _ _ = _
    simp [fzW, fzs, mapO, fzN]
theorem n_say (a : Int) (h : List Ob) : F_numbers_of [.tup [.str "say", .int a]] h = .ok (.tup [.str "plain", .lst [.int 3, .int a]]) h := by
  refine fin_ok (h' := h ++ [.lst [.int a]]) (d := .tup [.str "plain", .lst [.int 3, .int a]]) ?_ drops_app (by simp) (by simp) ?_
  · simp [B_numbers_of, isiNames, isiB, eq_tnil, ne_new, ixN, flatS, cut, HT.sIx, sizeLine_eq, ofS_app]
  · show fzW _ _ _ _ = _
    simp [fzW, fzs, mapO, fzN]
theorem n_ask (a : Int) (h : List Ob) : F_numbers_of [.tup [.str "ask", .int a]] h = .ok (.tup [.str "plain", .lst [.int 4, .int a]]) h := by
  refine fin_ok (h' := h ++ [.lst [.int a]]) (d := .tup [.str "plain", .lst [.int 4, .int a]]) ?_ drops_app (by simp) (by simp) ?_
  · simp [B_numbers_of, isiNames, isiB, eq_tnil, ne_new, ixN, flatS, cut, HT.sIx, sizeLine_eq, ofS_app]
  · show fzW _ _ _ _ = _
    simp [fzW, fzs, mapO, fzN]
theorem n_push (a : Int) (h : List Ob) : F_numbers_of [.tup [.str "push", .int a]] h = .ok (.tup [.str "plain", .lst [.int 5, .int a]]) h := by
  refine fin_ok (h' := h ++ [.lst [.int a]]) (d := .tup [.str "plain", .lst [.int 5, .int a]]) ?_ drops_app (by simp) (by simp) ?_
  · simp [B_numbers_of, isiNames, isiB, eq_tnil, ne_new, ixN, flatS, cut, HT.sIx, sizeLine_eq, ofS_app]
  · show fzW _ _ _ _ = _
    simp [fzW, fzs, mapO, fzN]
theorem n_pop (a : Int) (h : List Ob) : F_numbers_of [.tup [.str "pop", .int a]] h = .ok (.tup [.str "plain", .lst [.int 6, .int a]]) h := by
  refine fin_ok (h' := h ++ [.lst [.int a]]) (d := .tup [.str "plain", .lst [.int 6, .int a]]) ?_ drops_app (by simp) (by simp) ?_
  · simp [B_numbers_of, isiNames, isiB, eq_tnil, ne_new, ixN, flatS, cut, HT.sIx, sizeLine_eq, ofS_app]
  · show fzW _ _ _ _ = _
    simp [fzW, fzs, mapO, fzN]
theorem n_add (d a b : Int) (h : List Ob) : F_numbers_of [.tup [.str "add", .int d, .int a, .int b]] h = .ok (.tup [.str "pair", .lst [.int d, .int a, .int b, .int 0]]) h := by
  refine fin_ok (h' := h ++ [.lst [.int d, .int a, .int b]]) (d := .tup [.str "pair", .lst [.int d, .int a, .int b, .int 0]]) ?_ drops_app (by simp) (by simp) ?_
  · simp [B_numbers_of, isiNames, isiB, eq_tnil, ne_new, ixN, flatS, cut, HT.sIx, sizeLine_eq, ofS_app]
  · show fzW _ _ _ _ = _
    simp [fzW, fzs, mapO, fzN]
theorem n_less (d a b : Int) (h : List Ob) : F_numbers_of [.tup [.str "less", .int d, .int a, .int b]] h = .ok (.tup [.str "pair", .lst [.int d, .int a, .int b, .int 1]]) h := by
  refine fin_ok (h' := h ++ [.lst [.int d, .int a, .int b]]) (d := .tup [.str "pair", .lst [.int d, .int a, .int b, .int 1]]) ?_ drops_app (by simp) (by simp) ?_
  · simp [B_numbers_of, isiNames, isiB, eq_tnil, ne_new, ixN, flatS, cut, HT.sIx, sizeLine_eq, ofS_app]
  · show fzW _ _ _ _ = _
    simp [fzW, fzs, mapO, fzN]
theorem n_and (d a b : Int) (h : List Ob) : F_numbers_of [.tup [.str "and", .int d, .int a, .int b]] h = .ok (.tup [.str "pair", .lst [.int d, .int a, .int b, .int 2]]) h := by
  refine fin_ok (h' := h ++ [.lst [.int d, .int a, .int b]]) (d := .tup [.str "pair", .lst [.int d, .int a, .int b, .int 2]]) ?_ drops_app (by simp) (by simp) ?_
  · simp [B_numbers_of, isiNames, isiB, eq_tnil, ne_new, ixN, flatS, cut, HT.sIx, sizeLine_eq, ofS_app]
  · show fzW _ _ _ _ = _
    simp [fzW, fzs, mapO, fzN]
theorem n_or (d a b : Int) (h : List Ob) : F_numbers_of [.tup [.str "or", .int d, .int a, .int b]] h = .ok (.tup [.str "pair", .lst [.int d, .int a, .int b, .int 3]]) h := by
  refine fin_ok (h' := h ++ [.lst [.int d, .int a, .int b]]) (d := .tup [.str "pair", .lst [.int d, .int a, .int b, .int 3]]) ?_ drops_app (by simp) (by simp) ?_
  · simp [B_numbers_of, isiNames, isiB, eq_tnil, ne_new, ixN, flatS, cut, HT.sIx, sizeLine_eq, ofS_app]
  · show fzW _ _ _ _ = _
    simp [fzW, fzs, mapO, fzN]
theorem n_xor (d a b : Int) (h : List Ob) : F_numbers_of [.tup [.str "xor", .int d, .int a, .int b]] h = .ok (.tup [.str "pair", .lst [.int d, .int a, .int b, .int 4]]) h := by
  refine fin_ok (h' := h ++ [.lst [.int d, .int a, .int b]]) (d := .tup [.str "pair", .lst [.int d, .int a, .int b, .int 4]]) ?_ drops_app (by simp) (by simp) ?_
  · simp [B_numbers_of, isiNames, isiB, eq_tnil, ne_new, ixN, flatS, cut, HT.sIx, sizeLine_eq, ofS_app]
  · show fzW _ _ _ _ = _
    simp [fzW, fzs, mapO, fzN]
theorem n_left (d a b : Int) (h : List Ob) : F_numbers_of [.tup [.str "left", .int d, .int a, .int b]] h = .ok (.tup [.str "pair", .lst [.int d, .int a, .int b, .int 5]]) h := by
  refine fin_ok (h' := h ++ [.lst [.int d, .int a, .int b]]) (d := .tup [.str "pair", .lst [.int d, .int a, .int b, .int 5]]) ?_ drops_app (by simp) (by simp) ?_
  · simp [B_numbers_of, isiNames, isiB, eq_tnil, ne_new, ixN, flatS, cut, HT.sIx, sizeLine_eq, ofS_app]
  · show fzW _ _ _ _ = _
    simp [fzW, fzs, mapO, fzN]
theorem n_right (d a b : Int) (h : List Ob) : F_numbers_of [.tup [.str "right", .int d, .int a, .int b]] h = .ok (.tup [.str "pair", .lst [.int d, .int a, .int b, .int 6]]) h := by
  refine fin_ok (h' := h ++ [.lst [.int d, .int a, .int b]]) (d := .tup [.str "pair", .lst [.int d, .int a, .int b, .int 6]]) ?_ drops_app (by simp) (by simp) ?_
  · simp [B_numbers_of, isiNames, isiB, eq_tnil, ne_new, ixN, flatS, cut, HT.sIx, sizeLine_eq, ofS_app]
  · show fzW _ _ _ _ = _
    simp [fzW, fzs, mapO, fzN]
theorem n_turn (d a b : Int) (h : List Ob) : F_numbers_of [.tup [.str "turn", .int d, .int a, .int b]] h = .ok (.tup [.str "pair", .lst [.int d, .int a, .int b, .int 7]]) h := by
  refine fin_ok (h' := h ++ [.lst [.int d, .int a, .int b]]) (d := .tup [.str "pair", .lst [.int d, .int a, .int b, .int 7]]) ?_ drops_app (by simp) (by simp) ?_
  · simp [B_numbers_of, isiNames, isiB, eq_tnil, ne_new, ixN, flatS, cut, HT.sIx, sizeLine_eq, ofS_app]
  · show fzW _ _ _ _ = _
    simp [fzW, fzs, mapO, fzN]
theorem n_plus (d a n : Int) (h : List Ob) : F_numbers_of [.tup [.str "plus", .int d, .int a, .int n]] h = .ok (.tup [.str "plus", .lst [.int d, .int a, .int n]]) h := by
  refine fin_ok (h' := h ++ [.lst [.int d, .int a, .int n]]) (d := .tup [.str "plus", .ref h.length]) ?_ drops_app (by simp) (by simp) ?_
  · simp [B_numbers_of, isiNames, isiB, eq_tnil, ne_new, ixN, flatS, cut, HT.sIx, sizeLine_eq, ofS_app]
  · show fzW _ _ _ _ = _
    simp [fzW, fzs, mapO, fzN]
theorem n_set (d n : Int) (h : List Ob) : F_numbers_of [.tup [.str "set", .int d, .int n]] h = .ok (.tup [.str "set", .lst [.int d, .int n]]) h := by
  refine fin_ok (h' := h ++ [.lst [.int d, .int n]]) (d := .tup [.str "set", .ref h.length]) ?_ drops_app (by simp) (by simp) ?_
  · simp [B_numbers_of, isiNames, isiB, eq_tnil, ne_new, ixN, flatS, cut, HT.sIx, sizeLine_eq, ofS_app]
  · show fzW _ _ _ _ = _
    simp [fzW, fzs, mapO, fzN]
theorem n_high (d n : Int) (h : List Ob) : F_numbers_of [.tup [.str "high", .int d, .int n]] h = .ok (.tup [.str "high", .lst [.int d, .int n]]) h := by
  refine fin_ok (h' := h ++ [.lst [.int d, .int n]]) (d := .tup [.str "high", .ref h.length]) ?_ drops_app (by simp) (by simp) ?_
  · simp [B_numbers_of, isiNames, isiB, eq_tnil, ne_new, ixN, flatS, cut, HT.sIx, sizeLine_eq, ofS_app]
  · show fzW _ _ _ _ = _
    simp [fzW, fzs, mapO, fzN]
theorem n_load (d a n : Int) (h : List Ob) : F_numbers_of [.tup [.str "load", .int d, .int a, .int n]] h = .ok (.tup [.str "load", .lst [.int d, .int a, .int n]]) h := by
  refine fin_ok (h' := h ++ [.lst [.int d, .int a, .int n]]) (d := .tup [.str "load", .ref h.length]) ?_ drops_app (by simp) (by simp) ?_
  · simp [B_numbers_of, isiNames, isiB, eq_tnil, ne_new, ixN, flatS, cut, HT.sIx, sizeLine_eq, ofS_app]
  · show fzW _ _ _ _ = _
    simp [fzW, fzs, mapO, fzN]
theorem n_store (d a n : Int) (h : List Ob) : F_numbers_of [.tup [.str "store", .int d, .int a, .int n]] h = .ok (.tup [.str "store", .lst [.int d, .int a, .int n]]) h := by
  refine fin_ok (h' := h ++ [.lst [.int d, .int a, .int n]]) (d := .tup [.str "store", .ref h.length]) ?_ drops_app (by simp) (by simp) ?_
  · simp [B_numbers_of, isiNames, isiB, eq_tnil, ne_new, ixN, flatS, cut, HT.sIx, sizeLine_eq, ofS_app]
  · show fzW _ _ _ _ = _
    simp [fzW, fzs, mapO, fzN]
theorem n_calln (g : Int) (h : List Ob) : F_numbers_of [.tup [.str "call", .int g, .bl false]] h = .ok (.tup [.str "call", .lst [.int g]]) h := by
  refine fin_ok (h' := h ++ [.lst [.int g]]) (d := .tup [.str "call", .ref h.length]) ?_ drops_app (by simp) (by simp) ?_
  · simp [B_numbers_of, isiNames, isiB, eq_tnil, ne_new, ixN, flatS, cut, HT.sIx, sizeLine_eq, ofS_app]
  · show fzW _ _ _ _ = _
    simp [fzW, fzs, mapO, fzN]
theorem n_jumpn_always (g : Int) (h : List Ob) : F_numbers_of [.tup [.str "jump", .str "always", .int g, .bl false]] h = .ok (.tup [.str "jump", .lst [.int 0, .int g]]) h := by
  refine fin_ok (h' := h ++ [.lst [.int 0, .int g]]) (d := .tup [.str "jump", .ref h.length]) ?_ drops_app (by simp) (by simp) ?_
  · simp [B_numbers_of, isiNames, isiB, eq_tnil, ne_new, ixN, flatS, cut, HT.sIx, sizeLine_eq, ofS_app]
  · show fzW _ _ _ _ = _
    simp [fzW, fzs, mapO, fzN]
theorem n_jumpn_zero (g : Int) (h : List Ob) : F_numbers_of [.tup [.str "jump", .str "zero", .int g, .bl false]] h = .ok (.tup [.str "jump", .lst [.int 1, .int g]]) h := by
  refine fin_ok (h' := h ++ [.lst [.int 1, .int g]]) (d := .tup [.str "jump", .ref h.length]) ?_ drops_app (by simp) (by simp) ?_
  · simp [B_numbers_of, isiNames, isiB, eq_tnil, ne_new, ixN, flatS, cut, HT.sIx, sizeLine_eq, ofS_app]
  · show fzW _ _ _ _ = _
    simp [fzW, fzs, mapO, fzN]
theorem n_jumpn_some (g : Int) (h : List Ob) : F_numbers_of [.tup [.str "jump", .str "some", .int g, .bl false]] h = .ok (.tup [.str "jump", .lst [.int 2, .int g]]) h := by
  refine fin_ok (h' := h ++ [.lst [.int 2, .int g]]) (d := .tup [.str "jump", .ref h.length]) ?_ drops_app (by simp) (by simp) ?_
  · simp [B_numbers_of, isiNames, isiB, eq_tnil, ne_new, ixN, flatS, cut, HT.sIx, sizeLine_eq, ofS_app]
  · show fzW _ _ _ _ = _
    simp [fzW, fzs, mapO, fzN]
theorem n_jumpn_carry (g : Int) (h : List Ob) : F_numbers_of [.tup [.str "jump", .str "carry", .int g, .bl false]] h = .ok (.tup [.str "jump", .lst [.int 3, .int g]]) h := by
  refine fin_ok (h' := h ++ [.lst [.int 3, .int g]]) (d := .tup [.str "jump", .ref h.length]) ?_ drops_app (by simp) (by simp) ?_
  · simp [B_numbers_of, isiNames, isiB, eq_tnil, ne_new, ixN, flatS, cut, HT.sIx, sizeLine_eq, ofS_app]
  · show fzW _ _ _ _ = _
    simp [fzW, fzs, mapO, fzN]
theorem n_jumpn_clear (g : Int) (h : List Ob) : F_numbers_of [.tup [.str "jump", .str "clear", .int g, .bl false]] h = .ok (.tup [.str "jump", .lst [.int 4, .int g]]) h := by
  refine fin_ok (h' := h ++ [.lst [.int 4, .int g]]) (d := .tup [.str "jump", .ref h.length]) ?_ drops_app (by simp) (by simp) ?_
  · simp [B_numbers_of, isiNames, isiB, eq_tnil, ne_new, ixN, flatS, cut, HT.sIx, sizeLine_eq, ofS_app]
  · show fzW _ _ _ _ = _
    simp [fzW, fzs, mapO, fzN]
theorem n_jumpn_minus (g : Int) (h : List Ob) : F_numbers_of [.tup [.str "jump", .str "minus", .int g, .bl false]] h = .ok (.tup [.str "jump", .lst [.int 5, .int g]]) h := by
  refine fin_ok (h' := h ++ [.lst [.int 5, .int g]]) (d := .tup [.str "jump", .ref h.length]) ?_ drops_app (by simp) (by simp) ?_
  · simp [B_numbers_of, isiNames, isiB, eq_tnil, ne_new, ixN, flatS, cut, HT.sIx, sizeLine_eq, ofS_app]
  · show fzW _ _ _ _ = _
    simp [fzW, fzs, mapO, fzN]
theorem n_jumpn_over (g : Int) (h : List Ob) : F_numbers_of [.tup [.str "jump", .str "over", .int g, .bl false]] h = .ok (.tup [.str "jump", .lst [.int 6, .int g]]) h := by
  refine fin_ok (h' := h ++ [.lst [.int 6, .int g]]) (d := .tup [.str "jump", .ref h.length]) ?_ drops_app (by simp) (by simp) ?_
  · simp [B_numbers_of, isiNames, isiB, eq_tnil, ne_new, ixN, flatS, cut, HT.sIx, sizeLine_eq, ofS_app]
  · show fzW _ _ _ _ = _
    simp [fzW, fzs, mapO, fzN]
theorem n_callf (g : Int) (h : List Ob) : F_numbers_of [.tup [.str "call", .int g, .bl true]] h = .ok (.tup [.str "far call", .lst [.int g]]) h := by
  refine fin_ok (h' := h ++ [.lst [.int g]]) (d := .tup [.str "far call", .ref h.length]) ?_ drops_app (by simp) (by simp) ?_
  · simp [B_numbers_of, isiNames, isiB, eq_tnil, ne_new, ixN, flatS, cut, HT.sIx, sizeLine_eq, ofS_app]
  · show fzW _ _ _ _ = _
    simp [fzW, fzs, mapO, fzN]
theorem n_jumpf_always (g : Int) (h : List Ob) : F_numbers_of [.tup [.str "jump", .str "always", .int g, .bl true]] h = .ok (.tup [.str "far jump", .lst [.int 0, .int g]]) h := by
  refine fin_ok (h' := h ++ [.lst [.int 0, .int g]]) (d := .tup [.str "far jump", .ref h.length]) ?_ drops_app (by simp) (by simp) ?_
  · simp [B_numbers_of, isiNames, isiB, eq_tnil, ne_new, ixN, flatS, cut, HT.sIx, sizeLine_eq, ofS_app]
  · show fzW _ _ _ _ = _
    simp [fzW, fzs, mapO, fzN]
theorem n_jumpf_zero (g : Int) (h : List Ob) : F_numbers_of [.tup [.str "jump", .str "zero", .int g, .bl true]] h = .ok (.tup [.str "far jump", .lst [.int 1, .int g]]) h := by
  refine fin_ok (h' := h ++ [.lst [.int 1, .int g]]) (d := .tup [.str "far jump", .ref h.length]) ?_ drops_app (by simp) (by simp) ?_
  · simp [B_numbers_of, isiNames, isiB, eq_tnil, ne_new, ixN, flatS, cut, HT.sIx, sizeLine_eq, ofS_app]
  · show fzW _ _ _ _ = _
    simp [fzW, fzs, mapO, fzN]
theorem n_jumpf_some (g : Int) (h : List Ob) : F_numbers_of [.tup [.str "jump", .str "some", .int g, .bl true]] h = .ok (.tup [.str "far jump", .lst [.int 2, .int g]]) h := by
  refine fin_ok (h' := h ++ [.lst [.int 2, .int g]]) (d := .tup [.str "far jump", .ref h.length]) ?_ drops_app (by simp) (by simp) ?_
  · simp [B_numbers_of, isiNames, isiB, eq_tnil, ne_new, ixN, flatS, cut, HT.sIx, sizeLine_eq, ofS_app]
  · show fzW _ _ _ _ = _
    simp [fzW, fzs, mapO, fzN]
theorem n_jumpf_carry (g : Int) (h : List Ob) : F_numbers_of [.tup [.str "jump", .str "carry", .int g, .bl true]] h = .ok (.tup [.str "far jump", .lst [.int 3, .int g]]) h := by
  refine fin_ok (h' := h ++ [.lst [.int 3, .int g]]) (d := .tup [.str "far jump", .ref h.length]) ?_ drops_app (by simp) (by simp) ?_
  · simp [B_numbers_of, isiNames, isiB, eq_tnil, ne_new, ixN, flatS, cut, HT.sIx, sizeLine_eq, ofS_app]
  · show fzW _ _ _ _ = _
    simp [fzW, fzs, mapO, fzN]
theorem n_jumpf_clear (g : Int) (h : List Ob) : F_numbers_of [.tup [.str "jump", .str "clear", .int g, .bl true]] h = .ok (.tup [.str "far jump", .lst [.int 4, .int g]]) h := by
  refine fin_ok (h' := h ++ [.lst [.int 4, .int g]]) (d := .tup [.str "far jump", .ref h.length]) ?_ drops_app (by simp) (by simp) ?_
  · simp [B_numbers_of, isiNames, isiB, eq_tnil, ne_new, ixN, flatS, cut, HT.sIx, sizeLine_eq, ofS_app]
  · show fzW _ _ _ _ = _
    simp [fzW, fzs, mapO, fzN]
theorem n_jumpf_minus (g : Int) (h : List Ob) : F_numbers_of [.tup [.str "jump", .str "minus", .int g, .bl true]] h = .ok (.tup [.str "far jump", .lst [.int 5, .int g]]) h := by
  refine fin_ok (h' := h ++ [.lst [.int 5, .int g]]) (d := .tup [.str "far jump", .ref h.length]) ?_ drops_app (by simp) (by simp) ?_
  · simp [B_numbers_of, isiNames, isiB, eq_tnil, ne_new, ixN, flatS, cut, HT.sIx, sizeLine_eq, ofS_app]
  · show fzW _ _ _ _ = _
    simp [fzW, fzs, mapO, fzN]
theorem n_jumpf_over (g : Int) (h : List Ob) : F_numbers_of [.tup [.str "jump", .str "over", .int g, .bl true]] h = .ok (.tup [.str "far jump", .lst [.int 6, .int g]]) h := by
  refine fin_ok (h' := h ++ [.lst [.int 6, .int g]]) (d := .tup [.str "far jump", .ref h.length]) ?_ drops_app (by simp) (by simp) ?_
  · simp [B_numbers_of, isiNames, isiB, eq_tnil, ne_new, ixN, flatS, cut, HT.sIx, sizeLine_eq, ofS_app]
  · show fzW _ _ _ _ = _
    simp [fzW, fzs, mapO, fzN]
end Lk04


set_option autoImplicit false
set_option Elab.async false
set_option linter.all false
set_option maxRecDepth 100000
set_option maxHeartbeats 4000000
namespace Lk04
open PySem PySem.Spec PyProof.Rows L2 Bm Fv
/-- the numbers that a part holds -/
abbrev lowP (m : Int) (s : Bool) : Int := if s then -(2 ^ (m - 1).toNat) else 0
abbrev topP (m : Int) (s : Bool) : Int := if s then 2 ^ (m - 1).toNat - 1 else 2 * 2 ^ (m - 1).toNat - 1
theorem holds_ok (a m : Int) (s : Bool) (x : Int) (h : List Ob) (h1 : 1 ≤ m) (h2 : m ≤ 16) : F_Part_holds [partD a m s, .int x] h = .ok (.bl (decide (lowP m s ≤ x) && decide (x ≤ topP m s))) h := by
  have h0 : 0 ≤ m - 1 := by omega
  have h3 : m - 1 ≤ 1000000 := by omega
  have h4 : ∀ y, CMul 2 y := fun _ => .inl (by omega)
  cases s <;> simp [F_Part_holds, B_Part_holds, is_whole_int, h0, h1, h3, h4, lowP, topP, show m ≤ 1000001 by omega]
def Holds (d : D) : Prop := ∃ a m s x, d = .tup [partD a m s, .int x] ∧ 1 ≤ m ∧ m ≤ 16 ∧ lowP m s ≤ x ∧ x ≤ topP m s
theorem lows_true : ∀ ds : List D, lows 0 (ds.map fun _ => D.bl true) = true
  | [] => by simp [lows]
  | d :: ds => by simp [lows, low, lows_true ds]
theorem bools_true : ∀ ds : List D, boolsOf (ds.map fun _ => D.bl true) = some (ds.map fun _ => true)
  | [] => rfl
  | d :: ds => by simp [bools_true ds]
theorem need_ok {c : Str} (hc : c ∈ (["Form", "Near", "Far"] : List Str)) {op : Int} {ps ns : List D} (h : List Ob) (hl : ps.length = ns.length) (hm : ps.length ≤ 1000) (hk : ∀ d ∈ zipL ps ns, Holds d) :
    F_Form_need_parts [formD c op ps, .lst ns] h = .ok .non h := by
  have hc' : c = "Form" ∨ c = "Near" ∨ c = "Far" := by simpa using hc
  have hz : (zipL ps ns).length ≤ 1000000 := by unfold zipL; simp; omega
  have q := drop_lc (t := .tup [2, 3]) (vs := [2, 3]) (fi := zipIS (consM (fldM ["Form", "Near", "Far"] "parts" (eV 0)) (consM (eV 1) nilM))) (tt := ret true) (f := methM ["Part"] "holds" (fun _ => F_Part_holds) [] (eV 2) (consM (eV 3) nilM))
    (e := ⟨[some (formD c op ps), some (.lst ns), none, none], h⟩) (ds := zipL ps ns) (g := fun _ => .bl true) (by simp [hc', hl]) hz (fun d hd => by
      obtain ⟨a, m, s, x, rfl, h1, h2, h3, h4⟩ := hk d hd
      refine ⟨[some (formD c op ps), some (.lst ns), some (partD a m s), some (.int x)], by simp [Tg.put, wipeD, putN], fun h' => ⟨rfl, ?_⟩⟩
      have := holds_ok a m s x h' h1 h2
      simp only [partD] at this
      simp [this, h3, h4]) (lows_true _)
  simp [F_Form_need_parts, B_Form_need_parts, q, hc', hl, bools_true]
end Lk04


set_option autoImplicit false
set_option Elab.async false
set_option linter.all false
set_option maxRecDepth 100000
set_option maxHeartbeats 4000000
namespace Lk04
open PySem PySem.Spec PyProof.Rows L2 Bm Fv
/-- packed: of a form that is no near and no far one -/
theorem packed_form {d : D} {name : Str} {op p : Int} {ns ps ws : List D} (hn : ∀ h, F_numbers_of [d] h = .ok (.tup [.str name, .lst ns]) h) (hv : valD (.inr name) bookKs bookFs = some (formD "Form" op ps)) (hp0 : 0 ≤ p) (hp1 : p ≤ 199)
    (hd : ∀ h, F_Form_need [formD "Form" op ps, .lst ns] h = .ok .non h) (hw : ∀ h, F_Form_words [formD "Form" op ps, .lst ns, .int p] h = .ok (.tup ws) h) (h : List Ob) : F_packed [d, .int p] h = .ok (.tup ws) h := by
  have n1 : F_Book_need [bookD, d] h = .ok .non h := by simp [F_Book_need, B_Book_need, hn, -x_valD, hv, hd]
  have n2 : F_Book_packed [bookD, d, .int p] h = .ok (.tup ws) h := by simp [F_Book_packed, B_Book_packed, hn, -x_valD, hv, hw]
  simp [F_packed, B_packed, mk_book, n1, n2, is_whole_int, hp0, hp1]
theorem packed_near {d : D} {name : Str} {op p : Int} {ns ps ws : List D} (hn : ∀ h, F_numbers_of [d] h = .ok (.tup [.str name, .lst ns]) h) (hv : valD (.inr name) bookKs bookFs = some (formD "Near" op ps)) (hp0 : 0 ≤ p) (hp1 : p ≤ 199)
    (hd : ∀ h, F_Near_need [formD "Near" op ps, .lst ns] h = .ok .non h) (hw : ∀ h, F_Near_words [formD "Near" op ps, .lst ns, .int p] h = .ok (.tup ws) h) (h : List Ob) : F_packed [d, .int p] h = .ok (.tup ws) h := by
  have n1 : F_Book_need [bookD, d] h = .ok .non h := by simp [F_Book_need, B_Book_need, hn, -x_valD, hv, hd]
  have n2 : F_Book_packed [bookD, d, .int p] h = .ok (.tup ws) h := by simp [F_Book_packed, B_Book_packed, hn, -x_valD, hv, hw]
  simp [F_packed, B_packed, mk_book, n1, n2, is_whole_int, hp0, hp1]
theorem packed_far {d : D} {name : Str} {op p : Int} {ns ps ws : List D} (hn : ∀ h, F_numbers_of [d] h = .ok (.tup [.str name, .lst ns]) h) (hv : valD (.inr name) bookKs bookFs = some (formD "Far" op ps)) (hp0 : 0 ≤ p) (hp1 : p ≤ 199)
    (hd : ∀ h, F_Far_need [formD "Far" op ps, .lst ns] h = .ok .non h) (hw : ∀ h, F_Far_words [formD "Far" op ps, .lst ns, .int p] h = .ok (.tup ws) h) (h : List Ob) : F_packed [d, .int p] h = .ok (.tup ws) h := by
  have n1 : F_Book_need [bookD, d] h = .ok .non h := by simp [F_Book_need, B_Book_need, hn, -x_valD, hv, hd]
  have n2 : F_Book_packed [bookD, d, .int p] h = .ok (.tup ws) h := by simp [F_Book_packed, B_Book_packed, hn, -x_valD, hv, hw]
  simp [F_packed, B_packed, mk_book, n1, n2, is_whole_int, hp0, hp1]
end Lk04


set_option autoImplicit false
set_option Elab.async false
set_option linter.all false
set_option maxRecDepth 100000
set_option maxHeartbeats 4000000
namespace Lk04
open PySem PySem.Spec PyProof.Rows L2 Bm Fv
theorem fneed {op : Int} {ps ns : List D} (hl : ps.length = ns.length) (hm : ps.length ≤ 1000) (hk : ∀ d ∈ zipL ps ns, Holds d) (h : List Ob) : F_Form_need [formD "Form" op ps, .lst ns] h = .ok .non h := by
  simp [F_Form_need, B_Form_need, need_ok (by decide : ("Form" : Str) ∈ _) h hl hm hk]
theorem fwords {op w p : Int} {ps ns : List D} (q : ∀ h, F_Form_one_word [formD "Form" op ps, .lst ns] h = .ok (.int w) h) (h : List Ob) : F_Form_words [formD "Form" op ps, .lst ns, .int p] h = .ok (.tup [.int w]) h := by
  simp [F_Form_words, B_Form_words, q]
theorem holds_u {a m x : Int} (t : Int) (h1 : 1 ≤ m) (h2 : m ≤ 16) (e : 2 * 2 ^ (m - 1).toNat = t) (h3 : 0 ≤ x) (h4 : x < t) : Holds (.tup [partD a m false, .int x]) := ⟨a, m, false, x, rfl, h1, h2, h3, by show x ≤ 2 * 2 ^ (m - 1).toNat - 1; omega⟩
theorem holds_s {a m x : Int} (t : Int) (h1 : 1 ≤ m) (h2 : m ≤ 16) (e : 2 ^ (m - 1).toNat = t) (h3 : -t ≤ x) (h4 : x < t) : Holds (.tup [partD a m true, .int x]) := ⟨a, m, true, x, rfl, h1, h2, by show -(2 ^ (m - 1).toNat) ≤ x; omega, by show x ≤ 2 ^ (m - 1).toNat - 1; omega⟩
theorem hH {x : Int} (h0 : 0 ≤ x) (h1 : x < 8) : Holds (.tup [pH, .int x]) := holds_u 8 (by decide) (by decide) rfl h0 h1
theorem hM {x : Int} (h0 : 0 ≤ x) (h1 : x < 8) : Holds (.tup [pM, .int x]) := holds_u 8 (by decide) (by decide) rfl h0 h1
section
variable {p : Int} (hp0 : 0 ≤ p) (hp1 : p ≤ 199)
include hp0 hp1
theorem pk_plain {d : D} {i a : Int} (hn : ∀ h, F_numbers_of [d] h = .ok (.tup [.str "plain", .lst [.int i, .int a]]) h) (hi0 : 0 ≤ i) (hi1 : i < 8) (ha0 : 0 ≤ a) (ha1 : a < 8) (h : List Ob) : F_packed [d, .int p] h = .ok (.tup [.int (i * 512 + a * 64)]) h :=
  packed_form (op := 0) (ps := [pH, pM]) hn (by simp) hp0 hp1 (fneed rfl (by simp) (by simp [hH hi0 hi1, hM ha0 ha1])) (fwords fun h => ow_plain h (nd := .lst _) rfl hi0 hi1 ha0 ha1) h
theorem pk_pair {e : D} {d a b j : Int} (hn : ∀ h, F_numbers_of [e] h = .ok (.tup [.str "pair", .lst [.int d, .int a, .int b, .int j]]) h) (hd0 : 0 ≤ d) (hd1 : d < 8) (ha0 : 0 ≤ a) (ha1 : a < 8) (hb0 : 0 ≤ b) (hb1 : b < 8) (hj0 : 0 ≤ j) (hj1 : j < 8) (h : List Ob) :
    F_packed [e, .int p] h = .ok (.tup [.int (4096 + d * 512 + a * 64 + b * 8 + j)]) h :=
  packed_form (op := 1) (ps := [pH, pM, partD 3 3 false, partD 0 3 false]) hn (by simp) hp0 hp1 (fneed rfl (by simp) (by simp [hH hd0 hd1, hM ha0 ha1, holds_u 8 (a := 3) (m := 3) (by decide) (by decide) rfl hb0 hb1, holds_u 8 (a := 0) (m := 3) (by decide) (by decide) rfl hj0 hj1])) (fwords fun h => ow_pair h (nd := .lst _) rfl hd0 hd1 ha0 ha1 hb0 hb1 hj0 hj1) h
theorem pk_plus {d a n : Int} (hd0 : 0 ≤ d) (hd1 : d < 8) (ha0 : 0 ≤ a) (ha1 : a < 8) (hn0 : -32 ≤ n) (hn1 : n < 32) (h : List Ob) : F_packed [.tup [.str "plus", .int d, .int a, .int n], .int p] h = .ok (.tup [.int (8192 + d * 512 + a * 64 + n % 64)]) h :=
  packed_form (op := 2) (ps := [pH, pM, partD 0 6 true]) (fun h => n_plus d a n h) (by simp) hp0 hp1 (fneed rfl (by simp) (by simp [hH hd0 hd1, hM ha0 ha1, holds_s 32 (a := 0) (m := 6) (by decide) (by decide) rfl hn0 hn1])) (fwords fun h => ow3 h (nd := .lst _) rfl (by decide) (by decide) hd0 hd1 ha0 ha1) h
theorem pk_load {d a n : Int} (hd0 : 0 ≤ d) (hd1 : d < 8) (ha0 : 0 ≤ a) (ha1 : a < 8) (hn0 : 0 ≤ n) (hn1 : n < 64) (h : List Ob) : F_packed [.tup [.str "load", .int d, .int a, .int n], .int p] h = .ok (.tup [.int (20480 + d * 512 + a * 64 + n % 64)]) h :=
  packed_form (op := 5) (ps := [pH, pM, pS]) (fun h => n_load d a n h) (by simp) hp0 hp1 (fneed rfl (by simp) (by simp [hH hd0 hd1, hM ha0 ha1, holds_u 64 (a := 0) (m := 6) (by decide) (by decide) rfl hn0 hn1])) (fwords fun h => ow3 h (nd := .lst _) rfl (by decide) (by decide) hd0 hd1 ha0 ha1) h
theorem pk_store {d a n : Int} (hd0 : 0 ≤ d) (hd1 : d < 8) (ha0 : 0 ≤ a) (ha1 : a < 8) (hn0 : 0 ≤ n) (hn1 : n < 64) (h : List Ob) : F_packed [.tup [.str "store", .int d, .int a, .int n], .int p] h = .ok (.tup [.int (24576 + d * 512 + a * 64 + n % 64)]) h :=
  packed_form (op := 6) (ps := [pH, pM, pS]) (fun h => n_store d a n h) (by simp) hp0 hp1 (fneed rfl (by simp) (by simp [hH hd0 hd1, hM ha0 ha1, holds_u 64 (a := 0) (m := 6) (by decide) (by decide) rfl hn0 hn1])) (fwords fun h => ow3 h (nd := .lst _) rfl (by decide) (by decide) hd0 hd1 ha0 ha1) h
theorem pk_set {d n : Int} (hd0 : 0 ≤ d) (hd1 : d < 8) (hn0 : 0 ≤ n) (hn1 : n < 512) (h : List Ob) : F_packed [.tup [.str "set", .int d, .int n], .int p] h = .ok (.tup [.int (12288 + d * 512 + n)]) h :=
  packed_form (op := 3) (ps := [pH, partD 0 9 false]) (fun h => n_set d n h) (by simp) hp0 hp1 (fneed rfl (by simp) (by simp [hH hd0 hd1, holds_u 512 (a := 0) (m := 9) (by decide) (by decide) rfl hn0 hn1])) (fwords fun h => ow2 h (nd := .lst _) (by decide) rfl (by decide) (by decide) (by decide) (by decide) hd0 hd1 ((Bits.bitAnd_mask 9 hn0).trans (Int.emod_eq_of_lt hn0 hn1)) hn0 hn1) h
theorem pk_high {d n : Int} (hd0 : 0 ≤ d) (hd1 : d < 8) (hn0 : 0 ≤ n) (hn1 : n < 128) (h : List Ob) : F_packed [.tup [.str "high", .int d, .int n], .int p] h = .ok (.tup [.int (16384 + d * 512 + n)]) h :=
  packed_form (op := 4) (ps := [pH, partD 0 7 false]) (fun h => n_high d n h) (by simp) hp0 hp1 (fneed rfl (by simp) (by simp [hH hd0 hd1, holds_u 128 (a := 0) (m := 7) (by decide) (by decide) rfl hn0 hn1])) (fwords fun h => ow2 h (nd := .lst _) (by decide) rfl (by decide) (by decide) (by decide) (by decide) hd0 hd1 ((bitAnd_m7 n).trans (Int.emod_eq_of_lt hn0 hn1)) hn0 (by omega)) h
theorem pk_jumpn {e : D} {t g : Int} (hn : ∀ h, F_numbers_of [e] h = .ok (.tup [.str "jump", .lst [.int t, .int g]]) h) (ht0 : 0 ≤ t) (ht1 : t < 8) (hg0 : 0 ≤ g) (hg1 : p - 15 ≤ g) (hg2 : g ≤ p + 16) (h : List Ob) : F_packed [e, .int p] h = .ok (.tup [.int (28672 + t * 512 + (g - p - 1) % 32)]) h := by
  refine packed_near hn (ps := [pH, partD 0 5 true]) (op := 7) (by simp) hp0 hp1 (fun h => ?_) (fun h => ?_) h
  · have := need_ok (c := "Near") (by decide) (op := 7) (ps := [pH, partD 0 5 true]) (ns := [.int t, .int 0]) h rfl (by simp) (by simp [hH ht0 ht1, holds_s 16 (a := 0) (m := 5) (x := 0) (by decide) (by decide) rfl (by decide) (by decide)])
    simp [F_Near_need, B_Near_need, eq_lnil, flatS, is_whole_int, hg0, show g ≤ 65535 by omega, cut, HT.sIx, sizeLine_eq, this]
  · have a := holds_ok 0 5 true (g - p - 1) h (by decide) (by decide)
    rw [show (decide (lowP 5 true ≤ g - p - 1) && decide (g - p - 1 ≤ topP 5 true)) = true from by
      rw [Bool.and_eq_true, decide_eq_true_eq, decide_eq_true_eq]
      show -16 ≤ g - p - 1 ∧ g - p - 1 ≤ 15
      omega] at a
    have b := ow2 h (nd := .lst _) (c := "Near") (by decide) (op := 7) (x := t) (y := g - p - 1) (s := true) (m := 5) rfl (by decide) (by decide) (by decide) (by decide) ht0 ht1 (bitAnd_m5 _) (by omega) (by omega)
    simp [F_Near_words, B_Near_words, a, b, cut, HT.sIx, sizeLine_eq]
theorem pk_calln {g : Int} (hg0 : 0 ≤ g) (hg1 : p - 15 ≤ g) (hg2 : g ≤ p + 16) (h : List Ob) : F_packed [.tup [.str "call", .int g, .bl false], .int p] h = .ok (.tup [.int (36864 + (g - p - 1) % 32)]) h := by
  refine packed_near (fun h => n_calln g h) (ps := [partD 0 5 true]) (op := 9) (by simp) hp0 hp1 (fun h => ?_) (fun h => ?_) h
  · have := need_ok (c := "Near") (by decide) (op := 9) (ps := [partD 0 5 true]) (ns := [.int 0]) h rfl (by simp) (by simp [holds_s 16 (a := 0) (m := 5) (x := 0) (by decide) (by decide) rfl (by decide) (by decide)])
    simp [F_Near_need, B_Near_need, eq_lnil, flatS, is_whole_int, hg0, show g ≤ 65535 by omega, cut, HT.sIx, sizeLine_eq, this]
  · have a := holds_ok 0 5 true (g - p - 1) h (by decide) (by decide)
    rw [show (decide (lowP 5 true ≤ g - p - 1) && decide (g - p - 1 ≤ topP 5 true)) = true from by
      rw [Bool.and_eq_true, decide_eq_true_eq, decide_eq_true_eq]
      show -16 ≤ g - p - 1 ∧ g - p - 1 ≤ 15
      omega] at a
    have b := ow_call h (nd := .lst _) (x := g - p - 1) rfl
    simp [F_Near_words, B_Near_words, a, b, cut, HT.sIx, sizeLine_eq]
theorem pk_jumpf {e : D} {t g : Int} (hn : ∀ h, F_numbers_of [e] h = .ok (.tup [.str "far jump", .lst [.int t, .int g]]) h) (ht0 : 0 ≤ t) (ht1 : t < 8) (hg0 : 0 ≤ g) (hg1 : g ≤ 65535) (h : List Ob) : F_packed [e, .int p] h = .ok (.tup [.int (32768 + t * 512), .int g]) h := by
  refine packed_far hn (ps := [pH]) (op := 8) (by simp) hp0 hp1 (fun h => ?_) (fun h => ?_) h
  · have := need_ok (c := "Far") (by decide) (op := 8) (ps := [pH]) (ns := [.int t]) h rfl (by simp) (by simp [hH ht0 ht1])
    simp [F_Far_need, B_Far_need, eq_lnil, flatS, is_whole_int, hg0, hg1, cut, HT.sIx, this]
  · have b := ow_farj h (nd := .lst _) rfl ht0 ht1
    simp [F_Far_words, B_Far_words, b, cut, HT.sIx]
theorem pk_callf {g : Int} (hg0 : 0 ≤ g) (hg1 : g ≤ 65535) (h : List Ob) : F_packed [.tup [.str "call", .int g, .bl true], .int p] h = .ok (.tup [.int 40960, .int g]) h := by
  refine packed_far (fun h => n_callf g h) (ps := []) (op := 10) (by simp) hp0 hp1 (fun h => ?_) (fun h => ?_) h
  · have := need_ok (c := "Far") (by decide) (op := 10) (ps := []) (ns := []) h rfl (by simp) (by simp)
    simp [F_Far_need, B_Far_need, eq_lnil, flatS, is_whole_int, hg0, hg1, cut, HT.sIx, this]
  · have b := ow_farc h (nd := .lst []) rfl
    simp [F_Far_words, B_Far_words, b, cut, HT.sIx]
end
end Lk04


set_option autoImplicit false
set_option Elab.async false
set_option linter.all false
set_option maxRecDepth 100000
set_option maxHeartbeats 4000000
namespace Lk04
open PySem PySem.Spec PyProof.Rows L2 Bm Fv
theorem pk_k {p : Int} (hp0 : 0 ≤ p) (hp1 : p ≤ 199) {k : Dk} (o : k.ok p) (h : List Ob) : F_packed [k.toD, .int p] h = .ok (.tup ((k.words p).map .int)) h := by
  cases k with
  | p0 w =>
    cases w
    · simpa [Dk.toD, Dk.words, W0.s, W0.n] using pk_plain hp0 hp1 (fun h => n_halt h) (by decide) (by decide) (by decide) (by decide) h
    · simpa [Dk.toD, Dk.words, W0.s, W0.n] using pk_plain hp0 hp1 (fun h => n_rest h) (by decide) (by decide) (by decide) (by decide) h
    · simpa [Dk.toD, Dk.words, W0.s, W0.n] using pk_plain hp0 hp1 (fun h => n_back h) (by decide) (by decide) (by decide) (by decide) h
  | p1 w a =>
    have o : Rg a := o
    cases w
    · simpa [Dk.toD, Dk.words, W1.s, W1.n] using pk_plain hp0 hp1 (fun h => n_say a h) (by decide) (by decide) o.1 o.2 h
    · simpa [Dk.toD, Dk.words, W1.s, W1.n] using pk_plain hp0 hp1 (fun h => n_ask a h) (by decide) (by decide) o.1 o.2 h
    · simpa [Dk.toD, Dk.words, W1.s, W1.n] using pk_plain hp0 hp1 (fun h => n_push a h) (by decide) (by decide) o.1 o.2 h
    · simpa [Dk.toD, Dk.words, W1.s, W1.n] using pk_plain hp0 hp1 (fun h => n_pop a h) (by decide) (by decide) o.1 o.2 h
  | p2 w d a b =>
    have o : Rg d ∧ Rg a ∧ Rg b := o
    cases w
    · simpa [Dk.toD, Dk.words, W2.s, W2.n] using pk_pair hp0 hp1 (fun h => n_add d a b h) o.1.1 o.1.2 o.2.1.1 o.2.1.2 o.2.2.1 o.2.2.2 (by decide) (by decide) h
    · simpa [Dk.toD, Dk.words, W2.s, W2.n] using pk_pair hp0 hp1 (fun h => n_less d a b h) o.1.1 o.1.2 o.2.1.1 o.2.1.2 o.2.2.1 o.2.2.2 (by decide) (by decide) h
    · simpa [Dk.toD, Dk.words, W2.s, W2.n] using pk_pair hp0 hp1 (fun h => n_and d a b h) o.1.1 o.1.2 o.2.1.1 o.2.1.2 o.2.2.1 o.2.2.2 (by decide) (by decide) h
    · simpa [Dk.toD, Dk.words, W2.s, W2.n] using pk_pair hp0 hp1 (fun h => n_or d a b h) o.1.1 o.1.2 o.2.1.1 o.2.1.2 o.2.2.1 o.2.2.2 (by decide) (by decide) h
    · simpa [Dk.toD, Dk.words, W2.s, W2.n] using pk_pair hp0 hp1 (fun h => n_xor d a b h) o.1.1 o.1.2 o.2.1.1 o.2.1.2 o.2.2.1 o.2.2.2 (by decide) (by decide) h
    · simpa [Dk.toD, Dk.words, W2.s, W2.n] using pk_pair hp0 hp1 (fun h => n_left d a b h) o.1.1 o.1.2 o.2.1.1 o.2.1.2 o.2.2.1 o.2.2.2 (by decide) (by decide) h
    · simpa [Dk.toD, Dk.words, W2.s, W2.n] using pk_pair hp0 hp1 (fun h => n_right d a b h) o.1.1 o.1.2 o.2.1.1 o.2.1.2 o.2.2.1 o.2.2.2 (by decide) (by decide) h
    · simpa [Dk.toD, Dk.words, W2.s, W2.n] using pk_pair hp0 hp1 (fun h => n_turn d a b h) o.1.1 o.1.2 o.2.1.1 o.2.1.2 o.2.2.1 o.2.2.2 (by decide) (by decide) h
  | plus d a n =>
    have o : Rg d ∧ Rg a ∧ -32 ≤ n ∧ n < 32 := o
    simpa [Dk.toD, Dk.words] using pk_plus hp0 hp1 o.1.1 o.1.2 o.2.1.1 o.2.1.2 o.2.2.1 o.2.2.2 h
  | set d n =>
    have o : Rg d ∧ 0 ≤ n ∧ n < 512 := o
    simpa [Dk.toD, Dk.words] using pk_set hp0 hp1 o.1.1 o.1.2 o.2.1 o.2.2 h
  | high d n =>
    have o : Rg d ∧ 0 ≤ n ∧ n < 128 := o
    simpa [Dk.toD, Dk.words] using pk_high hp0 hp1 o.1.1 o.1.2 o.2.1 o.2.2 h
  | load d a n =>
    have o : Rg d ∧ Rg a ∧ 0 ≤ n ∧ n < 64 := o
    simpa [Dk.toD, Dk.words] using pk_load hp0 hp1 o.1.1 o.1.2 o.2.1.1 o.2.1.2 o.2.2.1 o.2.2.2 h
  | store d a n =>
    have o : Rg d ∧ Rg a ∧ 0 ≤ n ∧ n < 64 := o
    simpa [Dk.toD, Dk.words] using pk_store hp0 hp1 o.1.1 o.1.2 o.2.1.1 o.2.1.2 o.2.2.1 o.2.2.2 h
  | jump w g far =>
    obtain ⟨g0, g1, gn⟩ := (o : 0 ≤ g ∧ g ≤ 65535 ∧ (far = false → p - 15 ≤ g ∧ g ≤ p + 16))
    cases far with
    | false =>
      obtain ⟨n0, n1⟩ := gn rfl
      cases w
      · simpa [Dk.toD, Dk.words, Wn.s, Wn.n] using pk_jumpn hp0 hp1 (fun h => n_jumpn_always g h) (by decide) (by decide) g0 n0 n1 h
      · simpa [Dk.toD, Dk.words, Wn.s, Wn.n] using pk_jumpn hp0 hp1 (fun h => n_jumpn_zero g h) (by decide) (by decide) g0 n0 n1 h
      · simpa [Dk.toD, Dk.words, Wn.s, Wn.n] using pk_jumpn hp0 hp1 (fun h => n_jumpn_some g h) (by decide) (by decide) g0 n0 n1 h
      · simpa [Dk.toD, Dk.words, Wn.s, Wn.n] using pk_jumpn hp0 hp1 (fun h => n_jumpn_carry g h) (by decide) (by decide) g0 n0 n1 h
      · simpa [Dk.toD, Dk.words, Wn.s, Wn.n] using pk_jumpn hp0 hp1 (fun h => n_jumpn_clear g h) (by decide) (by decide) g0 n0 n1 h
      · simpa [Dk.toD, Dk.words, Wn.s, Wn.n] using pk_jumpn hp0 hp1 (fun h => n_jumpn_minus g h) (by decide) (by decide) g0 n0 n1 h
      · simpa [Dk.toD, Dk.words, Wn.s, Wn.n] using pk_jumpn hp0 hp1 (fun h => n_jumpn_over g h) (by decide) (by decide) g0 n0 n1 h
    | true =>
      cases w
      · simpa [Dk.toD, Dk.words, Wn.s, Wn.n] using pk_jumpf hp0 hp1 (fun h => n_jumpf_always g h) (by decide) (by decide) g0 g1 h
      · simpa [Dk.toD, Dk.words, Wn.s, Wn.n] using pk_jumpf hp0 hp1 (fun h => n_jumpf_zero g h) (by decide) (by decide) g0 g1 h
      · simpa [Dk.toD, Dk.words, Wn.s, Wn.n] using pk_jumpf hp0 hp1 (fun h => n_jumpf_some g h) (by decide) (by decide) g0 g1 h
      · simpa [Dk.toD, Dk.words, Wn.s, Wn.n] using pk_jumpf hp0 hp1 (fun h => n_jumpf_carry g h) (by decide) (by decide) g0 g1 h
      · simpa [Dk.toD, Dk.words, Wn.s, Wn.n] using pk_jumpf hp0 hp1 (fun h => n_jumpf_clear g h) (by decide) (by decide) g0 g1 h
      · simpa [Dk.toD, Dk.words, Wn.s, Wn.n] using pk_jumpf hp0 hp1 (fun h => n_jumpf_minus g h) (by decide) (by decide) g0 g1 h
      · simpa [Dk.toD, Dk.words, Wn.s, Wn.n] using pk_jumpf hp0 hp1 (fun h => n_jumpf_over g h) (by decide) (by decide) g0 g1 h
  | call g far =>
    obtain ⟨g0, g1, gn⟩ := (o : 0 ≤ g ∧ g ≤ 65535 ∧ (far = false → p - 15 ≤ g ∧ g ≤ p + 16))
    cases far with
    | false =>
      obtain ⟨n0, n1⟩ := gn rfl
      simpa [Dk.toD, Dk.words] using pk_calln hp0 hp1 g0 n0 n1 h
    | true => simpa [Dk.toD, Dk.words] using pk_callf hp0 hp1 g0 g1 h
end Lk04


set_option autoImplicit false
set_option Elab.async false
set_option linter.all false
set_option maxRecDepth 100000
set_option maxHeartbeats 4000000
namespace Lk04
open PySem PySem.Spec PyProof.Rows L2 Bm Fv
/-! words that a deed is are that deed -/
def Dk.two : Dk → Bool
  | .jump _ _ b => b
  | .call _ b => b
  | _ => false
theorem w0_n (w : W0) : w0 w.n = w := by cases w <;> rfl
theorem w1_n (w : W1) : w1 w.n = w := by cases w <;> rfl
theorem w2_n (w : W2) : w2 w.n = w := by cases w <;> rfl
theorem wn_n (w : Wn) : wn w.n = w := by cases w <;> rfl
theorem W0.nb (w : W0) : 0 ≤ w.n ∧ w.n < 3 := by cases w <;> decide
theorem W1.nb (w : W1) : 3 ≤ w.n ∧ w.n < 7 := by cases w <;> decide
theorem W2.nb (w : W2) : 0 ≤ w.n ∧ w.n < 8 := by cases w <;> decide
theorem Wn.nb (w : Wn) : 0 ≤ w.n ∧ w.n < 7 := by cases w <;> decide
theorem dec1 {p : Int} {k : Dk} (o : k.ok p) (p0 : 0 ≤ p) (nf : k.two = false) (nx : Option Int) : ∃ w, k.words p = [w] ∧ decode w p nx = some (k, 1) := by
  cases k with
  | p0 w =>
    have b := w.nb
    refine ⟨_, rfl, ?_⟩
    have h1 : w.n * 512 / 4096 = 0 := by omega
    have h2 : w.n * 512 / 512 % 8 = w.n := by omega
    have h3 : ¬ (0 < w.n * 512 % 64 ∨ w.n = 7 ∨ (w.n < 3 ∧ 0 < w.n * 512 / 64 % 8)) := by omega
    rw [decode.eq_def, if_pos h1, h2, if_neg h3, if_pos b.2, w0_n]
  | p1 w a =>
    simp only [Dk.ok] at o
    have b := w.nb
    refine ⟨_, rfl, ?_⟩
    have h1 : (w.n * 512 + a * 64) / 4096 = 0 := by omega
    have h2 : (w.n * 512 + a * 64) / 512 % 8 = w.n := by omega
    have h4 : (w.n * 512 + a * 64) / 64 % 8 = a := by omega
    have h3 : ¬ (0 < (w.n * 512 + a * 64) % 64 ∨ w.n = 7 ∨ (w.n < 3 ∧ 0 < a)) := by omega
    have h5 : ¬ w.n < 3 := by omega
    rw [decode.eq_def, if_pos h1, h2, h4, if_neg h3, if_neg h5, w1_n]
  | p2 w d a b =>
    simp only [Dk.ok] at o
    have bb := w.nb
    refine ⟨_, rfl, ?_⟩
    have h1 : (4096 + d * 512 + a * 64 + b * 8 + w.n) / 4096 = 1 := by omega
    have h2 : (4096 + d * 512 + a * 64 + b * 8 + w.n) / 512 % 8 = d := by omega
    have h3 : (4096 + d * 512 + a * 64 + b * 8 + w.n) / 64 % 8 = a := by omega
    have h4 : (4096 + d * 512 + a * 64 + b * 8 + w.n) / 8 % 8 = b := by omega
    have h5 : (4096 + d * 512 + a * 64 + b * 8 + w.n) % 8 = w.n := by omega
    simp [decode, h1, h2, h3, h4, h5, w2_n]
  | plus d a n =>
    simp only [Dk.ok] at o
    refine ⟨_, rfl, ?_⟩
    have h1 : (8192 + d * 512 + a * 64 + n % 64) / 4096 = 2 := by omega
    have h2 : (8192 + d * 512 + a * 64 + n % 64) / 512 % 8 = d := by omega
    have h3 : (8192 + d * 512 + a * 64 + n % 64) / 64 % 8 = a := by omega
    have h4 : (if 31 < (8192 + d * 512 + a * 64 + n % 64) % 64 then (8192 + d * 512 + a * 64 + n % 64) % 64 - 64 else (8192 + d * 512 + a * 64 + n % 64) % 64) = n := by split <;> omega
    rw [decode.eq_def, h1, h2, h3, h4]
    simp
  | set d n =>
    simp only [Dk.ok] at o
    refine ⟨_, rfl, ?_⟩
    have h1 : (12288 + d * 512 + n) / 4096 = 3 := by omega
    have h2 : (12288 + d * 512 + n) / 512 % 8 = d := by omega
    have h3 : (12288 + d * 512 + n) % 512 = n := by omega
    simp [decode, h1, h2, h3]
  | high d n =>
    simp only [Dk.ok] at o
    refine ⟨_, rfl, ?_⟩
    have h1 : (16384 + d * 512 + n) / 4096 = 4 := by omega
    have h2 : (16384 + d * 512 + n) / 512 % 8 = d := by omega
    have h3 : (16384 + d * 512 + n) % 512 = n := by omega
    simp [decode, h1, h2, h3, o.2.2]
  | load d a n =>
    simp only [Dk.ok] at o
    refine ⟨_, rfl, ?_⟩
    have h1 : (20480 + d * 512 + a * 64 + n % 64) / 4096 = 5 := by omega
    have h2 : (20480 + d * 512 + a * 64 + n % 64) / 512 % 8 = d := by omega
    have h3 : (20480 + d * 512 + a * 64 + n % 64) / 64 % 8 = a := by omega
    have h4 : (20480 + d * 512 + a * 64 + n % 64) % 64 = n := by omega
    rw [decode.eq_def, h1, h2, h3, h4]
    simp
  | store d a n =>
    simp only [Dk.ok] at o
    refine ⟨_, rfl, ?_⟩
    have h1 : (24576 + d * 512 + a * 64 + n % 64) / 4096 = 6 := by omega
    have h2 : (24576 + d * 512 + a * 64 + n % 64) / 512 % 8 = d := by omega
    have h3 : (24576 + d * 512 + a * 64 + n % 64) / 64 % 8 = a := by omega
    have h4 : (24576 + d * 512 + a * 64 + n % 64) % 64 = n := by omega
    rw [decode.eq_def, h1, h2, h3, h4]
    simp
  | jump w g far =>
    simp only [Dk.ok] at o
    cases nf
    have r := o.2.2 rfl
    have bb := w.nb
    refine ⟨_, rfl, ?_⟩
    have h1 : (28672 + w.n * 512 + (g - p - 1) % 32) / 4096 = 7 := by omega
    have h2 : (28672 + w.n * 512 + (g - p - 1) % 32) / 512 % 8 = w.n := by omega
    have h3 : (28672 + w.n * 512 + (g - p - 1) % 32) % 512 < 32 := by omega
    have h4 : p + 1 + (28672 + w.n * 512 + (g - p - 1) % 32) % 32 - (if 15 < (28672 + w.n * 512 + (g - p - 1) % 32) % 32 then 32 else 0) = g := by split <;> omega
    rw [decode.eq_def, h1, h2, h4]
    simp [h3, bb.2, o.1, wn_n]
  | call g far =>
    simp only [Dk.ok] at o
    cases nf
    have r := o.2.2 rfl
    refine ⟨_, rfl, ?_⟩
    have h1 : (36864 + (g - p - 1) % 32) / 4096 = 9 := by omega
    have h3 : (36864 + (g - p - 1) % 32) % 4096 < 32 := by omega
    have h4 : p + 1 + (36864 + (g - p - 1) % 32) % 32 - (if 15 < (36864 + (g - p - 1) % 32) % 32 then 32 else 0) = g := by split <;> omega
    rw [decode.eq_def, h1, h4]
    simp [h3, o.1]
theorem dec2 {p : Int} {k : Dk} (f : k.two = true) : ∃ w g, k.words p = [w, g] ∧ decode w p (some g) = some (k, 2) := by
  cases k with
  | jump w g far =>
    cases f
    have bb := w.nb
    refine ⟨_, _, rfl, ?_⟩
    have h1 : (32768 + w.n * 512) / 4096 = 8 := by omega
    have h2 : (32768 + w.n * 512) / 512 % 8 = w.n := by omega
    have h3 : (32768 + w.n * 512) % 512 = 0 := by omega
    rw [decode.eq_def, h1, h2, h3]
    simp [bb.2, wn_n]
  | call g far =>
    cases f
    exact ⟨_, _, rfl, by simp [decode]⟩
  | _ => cases f
/-! the deed that words are has just these words -/
theorem w0n {d : Int} (h0 : 0 ≤ d) (h1 : d < 3) : (w0 d).n = d := by
  rcases (by omega : d = 0 ∨ d = 1 ∨ d = 2) with rfl | rfl | rfl <;> rfl
theorem w1n {d : Int} (h0 : 3 ≤ d) (h1 : d < 7) : (w1 d).n = d := by
  rcases (by omega : d = 3 ∨ d = 4 ∨ d = 5 ∨ d = 6) with rfl | rfl | rfl | rfl <;> rfl
theorem w2n {d : Int} (h0 : 0 ≤ d) (h1 : d < 8) : (w2 d).n = d := by
  rcases (by omega : d = 0 ∨ d = 1 ∨ d = 2 ∨ d = 3 ∨ d = 4 ∨ d = 5 ∨ d = 6 ∨ d = 7) with rfl | rfl | rfl | rfl | rfl | rfl | rfl | rfl <;> rfl
theorem wnn {d : Int} (h0 : 0 ≤ d) (h1 : d < 7) : (wn d).n = d := by
  rcases (by omega : d = 0 ∨ d = 1 ∨ d = 2 ∨ d = 3 ∨ d = 4 ∨ d = 5 ∨ d = 6) with rfl | rfl | rfl | rfl | rfl | rfl | rfl <;> rfl
theorem sing {a b : Int} (h : a = b) : [a] = [b] := by rw [h]
theorem enc_dec {w p : Int} {nx : Option Int} {k : Dk} {n : Int} (hw : Wd w) (hp : 0 ≤ p) (hp1 : p ≤ 60000) (hnx : ∀ v, nx = some v → Wd v) (e : decode w p nx = some (k, n)) : k.ok p ∧ ((n = 1 ∧ k.words p = [w]) ∨ (n = 2 ∧ ∃ v, nx = some v ∧ k.words p = [w, v])) := by
  obtain ⟨f, hf⟩ : ∃ f, f = w / 4096 := ⟨_, rfl⟩
  rcases (by omega : f = 0 ∨ f = 1 ∨ f = 2 ∨ f = 3 ∨ f = 4 ∨ f = 5 ∨ f = 6 ∨ f = 7 ∨ f = 8 ∨ f = 9 ∨ f = 10 ∨ (10 < f ∧ f < 16)) with q | q | q | q | q | q | q | q | q | q | q | q
  · have f' : w / 4096 = 0 := by omega
    rw [decode.eq_def, if_pos f'] at e
    split at e
    · cases e
    · rename_i c
      split at e
      · rename_i c2
        cases e
        refine ⟨True.intro, .inl ⟨rfl, sing ?_⟩⟩
        rw [w0n (by omega) (by omega)]
        omega
      · rename_i c2
        cases e
        refine ⟨⟨by omega, by omega⟩, .inl ⟨rfl, sing ?_⟩⟩
        rw [w1n (by omega) (by omega)]
        omega
  · have f' : w / 4096 = 1 := by omega
    simp [decode, f'] at e
    obtain ⟨rfl, rfl⟩ := e
    refine ⟨⟨⟨by omega, by omega⟩, ⟨by omega, by omega⟩, ⟨by omega, by omega⟩⟩, .inl ⟨rfl, sing ?_⟩⟩
    rw [w2n (by omega) (by omega)]
    omega
  · have f' : w / 4096 = 2 := by omega
    simp [decode, f'] at e
    obtain ⟨rfl, rfl⟩ := e
    refine ⟨⟨⟨by omega, by omega⟩, ⟨by omega, by omega⟩, ?_, ?_⟩, .inl ⟨rfl, sing ?_⟩⟩
    · split <;> omega
    · split <;> omega
    · split <;> omega
  · have f' : w / 4096 = 3 := by omega
    simp [decode, f'] at e
    obtain ⟨rfl, rfl⟩ := e
    exact ⟨⟨⟨by omega, by omega⟩, by omega, by omega⟩, .inl ⟨rfl, sing (by omega)⟩⟩
  · have f' : w / 4096 = 4 := by omega
    simp [decode, f'] at e
    obtain ⟨c, rfl, rfl⟩ := e
    exact ⟨⟨⟨by omega, by omega⟩, by omega, by omega⟩, .inl ⟨rfl, sing (by omega)⟩⟩
  · have f' : w / 4096 = 5 := by omega
    simp [decode, f'] at e
    obtain ⟨rfl, rfl⟩ := e
    exact ⟨⟨⟨by omega, by omega⟩, ⟨by omega, by omega⟩, by omega, by omega⟩, .inl ⟨rfl, sing (by omega)⟩⟩
  · have f' : w / 4096 = 6 := by omega
    simp [decode, f'] at e
    obtain ⟨rfl, rfl⟩ := e
    exact ⟨⟨⟨by omega, by omega⟩, ⟨by omega, by omega⟩, by omega, by omega⟩, .inl ⟨rfl, sing (by omega)⟩⟩
  · have f' : w / 4096 = 7 := by omega
    simp [decode, f'] at e
    obtain ⟨c, rfl, rfl⟩ := e
    obtain ⟨c1, c2, c3⟩ := c
    have hh : ((if 15 < w % 32 then 32 else 0 : Int) = 32 ∧ 15 < w % 32) ∨ ((if 15 < w % 32 then 32 else 0 : Int) = 0 ∧ w % 32 ≤ 15) := by split <;> omega
    obtain ⟨t, ht⟩ : ∃ t, t = (if 15 < w % 32 then 32 else 0 : Int) := ⟨_, rfl⟩
    rw [← ht] at hh
    refine ⟨⟨?_, ?_, fun _ => ⟨?_, ?_⟩⟩, .inl ⟨rfl, sing ?_⟩⟩
    · rw [← ht]; split at c3 <;> omega
    · rw [← ht]; omega
    · rw [← ht]; omega
    · rw [← ht]; omega
    · rw [wnn (by omega) (by omega), ← ht]
      omega
  · have f' : w / 4096 = 8 := by omega
    cases nx with
    | none => simp [decode, f'] at e
    | some v =>
      have hv := hnx v rfl
      simp [decode, f'] at e
      obtain ⟨c, rfl, rfl⟩ := e
      refine ⟨⟨by omega, by omega, fun z => by cases z⟩, .inr ⟨rfl, v, rfl, ?_⟩⟩
      show [32768 + (wn (w / 512 % 8)).n * 512, v] = [w, v]
      rw [wnn (by omega) (by omega), show 32768 + w / 512 % 8 * 512 = w by omega]
  · have f' : w / 4096 = 9 := by omega
    simp [decode, f'] at e
    obtain ⟨c, rfl, rfl⟩ := e
    obtain ⟨c1, c3⟩ := c
    have hh : ((if 15 < w % 32 then 32 else 0 : Int) = 32 ∧ 15 < w % 32) ∨ ((if 15 < w % 32 then 32 else 0 : Int) = 0 ∧ w % 32 ≤ 15) := by split <;> omega
    obtain ⟨t, ht⟩ : ∃ t, t = (if 15 < w % 32 then 32 else 0 : Int) := ⟨_, rfl⟩
    rw [← ht] at hh
    refine ⟨⟨?_, ?_, fun _ => ⟨?_, ?_⟩⟩, .inl ⟨rfl, sing ?_⟩⟩
    · rw [← ht]; split at c3 <;> omega
    · rw [← ht]; omega
    · rw [← ht]; omega
    · rw [← ht]; omega
    · rw [← ht]
      omega
  · have f' : w / 4096 = 10 := by omega
    cases nx with
    | none => simp [decode, f'] at e
    | some v =>
      have hv := hnx v rfl
      simp [decode, f'] at e
      obtain ⟨c, rfl, rfl⟩ := e
      refine ⟨⟨by omega, by omega, fun z => by cases z⟩, .inr ⟨rfl, v, rfl, ?_⟩⟩
      show [40960, v] = [w, v]
      rw [show (40960 : Int) = w by omega]
  · have f0 : ¬ w / 4096 = 0 := by omega
    have f1 : ¬ w / 4096 = 1 := by omega
    have f2 : ¬ w / 4096 = 2 := by omega
    have f3 : ¬ w / 4096 = 3 := by omega
    have f4 : ¬ w / 4096 = 4 := by omega
    have f5 : ¬ w / 4096 = 5 := by omega
    have f6 : ¬ w / 4096 = 6 := by omega
    have f7 : ¬ w / 4096 = 7 := by omega
    have f8 : ¬ w / 4096 = 8 := by omega
    have f9 : ¬ w / 4096 = 9 := by omega
    have f10 : ¬ w / 4096 = 10 := by omega
    rw [decode.eq_def, if_neg f0, if_neg f1, if_neg f2, if_neg f3, if_neg f4, if_neg f5, if_neg f6, if_neg f7, if_neg f9] at e
    cases nx with
    | none => cases e
    | some v =>
      dsimp only at e
      rw [if_neg f8, if_neg f10] at e
      cases e
end Lk04


set_option autoImplicit false
set_option Elab.async false
set_option linter.all false
set_option maxRecDepth 100000
set_option maxHeartbeats 4000000
namespace Lk04
open PySem PySem.Spec PyProof.Rows L2 Bm Fv
/-! deeds as keys -/
def bN (b : Bool) : NestedKey := .num (if b = true then 1 else 0)
def Dk.nk : Dk → NestedKey
  | .p0 w => .tup [.text (Str.ofString w.s)]
  | .p1 w a => .tup [.text (Str.ofString w.s), .num a]
  | .p2 w d a b => .tup [.text (Str.ofString w.s), .num d, .num a, .num b]
  | .plus d a n => .tup [.text "plus", .num d, .num a, .num n]
  | .set d n => .tup [.text "set", .num d, .num n]
  | .high d n => .tup [.text "high", .num d, .num n]
  | .load d a n => .tup [.text "load", .num d, .num a, .num n]
  | .store d a n => .tup [.text "store", .num d, .num a, .num n]
  | .jump w g far => .tup [.text "jump", .text (Str.ofString w.s), .num g, bN far]
  | .call g far => .tup [.text "call", .num g, bN far]
theorem Dk.keyN (k : Dk) : Fv.keyN k.toD = some k.nk := by cases k <;> rfl
def fstT : NestedKey → Str
  | .tup (.text x :: _) => x
  | _ => ""
def wcls (s : Str) : Nat := if s ∈ (["halt", "rest", "back"] : List Str) then 0 else if s ∈ (["say", "ask", "push", "pop"] : List Str) then 1 else if s ∈ (["add", "less", "and", "or", "xor", "left", "right", "turn"] : List Str) then 2 else
  if s = "plus" then 3 else if s = "set" then 4 else if s = "high" then 5 else if s = "load" then 6 else if s = "store" then 7 else if s = "jump" then 8 else if s = "call" then 9 else 10
def Dk.cls : Dk → Nat
  | .p0 _ => 0 | .p1 _ _ => 1 | .p2 _ _ _ _ => 2 | .plus _ _ _ => 3 | .set _ _ => 4 | .high _ _ => 5 | .load _ _ _ => 6 | .store _ _ _ => 7 | .jump _ _ _ => 8 | .call _ _ => 9
theorem W0.wc (w : W0) : wcls (Str.ofString w.s) = 0 := by cases w <;> decide +kernel
theorem W1.wc (w : W1) : wcls (Str.ofString w.s) = 1 := by cases w <;> decide +kernel
theorem W2.wc (w : W2) : wcls (Str.ofString w.s) = 2 := by cases w <;> decide +kernel
theorem nm_wc : wcls "plus" = 3 ∧ wcls "set" = 4 ∧ wcls "high" = 5 ∧ wcls "load" = 6 ∧ wcls "store" = 7 ∧ wcls "jump" = 8 ∧ wcls "call" = 9 := by decide +kernel
theorem Dk.wc (k : Dk) : wcls (fstT k.nk) = k.cls := by
  cases k with
  | p0 w => exact w.wc
  | p1 w a => exact w.wc
  | p2 w d a b => exact w.wc
  | plus d a n => exact nm_wc.1
  | set d n => exact nm_wc.2.1
  | high d n => exact nm_wc.2.2.1
  | load d a n => exact nm_wc.2.2.2.1
  | store d a n => exact nm_wc.2.2.2.2.1
  | jump w g far => exact nm_wc.2.2.2.2.2.1
  | call g far => exact nm_wc.2.2.2.2.2.2
theorem s_inj0 (w w' : W0) (e : Str.ofString w.s = Str.ofString w'.s) : w = w' := by
  revert e
  cases w <;> cases w' <;> first | exact fun _ => rfl | exact fun e => absurd e (by decide +kernel)
theorem s_inj1 (w w' : W1) (e : Str.ofString w.s = Str.ofString w'.s) : w = w' := by
  revert e
  cases w <;> cases w' <;> first | exact fun _ => rfl | exact fun e => absurd e (by decide +kernel)
theorem s_inj2 (w w' : W2) (e : Str.ofString w.s = Str.ofString w'.s) : w = w' := by
  revert e
  cases w <;> cases w' <;> first | exact fun _ => rfl | exact fun e => absurd e (by decide +kernel)
theorem s_injn (w w' : Wn) (e : Str.ofString w.s = Str.ofString w'.s) : w = w' := by
  revert e
  cases w <;> cases w' <;> first | exact fun _ => rfl | exact fun e => absurd e (by decide +kernel)
theorem bN_inj {a b : Bool} (e : bN a = bN b) : a = b := by
  cases a <;> cases b <;> first | rfl | (simp [bN] at e)
theorem nk_inj {k k' : Dk} (e : k.nk = k'.nk) : k = k' := by
  have c : k.cls = k'.cls := by rw [← k.wc, ← k'.wc, e]
  cases k <;> cases k' <;> (try (exfalso; revert c; simp [Dk.cls]; done)) <;> simp only [Dk.nk, NestedKey.tup.injEq, List.cons.injEq, NestedKey.text.injEq, NestedKey.num.injEq, and_true, true_and] at e
  · rw [s_inj0 _ _ e]
  · rw [s_inj1 _ _ e.1, e.2]
  · rw [s_inj2 _ _ e.1, e.2.1, e.2.2.1, e.2.2.2]
  · rw [e.1, e.2.1, e.2.2]
  · rw [e.1, e.2]
  · rw [e.1, e.2]
  · rw [e.1, e.2.1, e.2.2]
  · rw [e.1, e.2.1, e.2.2]
  · rw [s_injn _ _ e.1, e.2.1, bN_inj e.2.2]
  · rw [e.1, bN_inj e.2]
end Lk04


set_option Elab.async false
set_option linter.all false
set_option maxRecDepth 100000
set_option maxHeartbeats 4000000
set_option autoImplicit false
/-! steps over functions that stay closed (a simp over them lets the kernel open them) -/
namespace Fv
open PySem PySem.Spec PyProof.Rows L2 Bm
theorem st_seq {f g : M Fl} {e e' : En} (q : f e = .ok .nx e') : seqM f g e = g e' := by simp [q]
theorem st_seqR {f g : M Fl} {e e' : En} {d : D} (q : f e = .ok (.rt d) e') : seqM f g e = .ok (.rt d) e' := by simp [q]
theorem st_if_t {c : M Bool} {f g : M Fl} {e e' : En} (q : c e = .ok true e') : ifS c f g e = f e' := by simp [q]
theorem st_if_f {c : M Bool} {f g : M Fl} {e e' : En} (q : c e = .ok false e') : ifS c f g e = g e' := by simp [q]
theorem st_set {f : M D} {i : Nat} {e e' : En} {d : D} (q : f e = .ok d e') : setM f (putS i) e = .ok .nx ⟨e'.ρ.set i (some d), e'.h⟩ := by simp [q]
theorem st_ret {f : M D} {e e' : En} {d : D} (q : f e = .ok d e') : retM f e = .ok (.rt d) e' := by simp [q]
theorem st_expr {f : M D} {e e' : En} {d : D} (q : f e = .ok d e') : exprM f e = .ok .nx e' := by simp [q]
theorem st_v {i : Nat} {ρ : List (Option D)} {h : List Ob} {d : D} (q : ρ[i]? = some (some d)) : eV i ⟨ρ, h⟩ = .ok d ⟨ρ, h⟩ := by simp [q]
theorem st_arg0 {e : En} : nilM e = .ok [] e := rfl
theorem st_arg {f : M D} {g : M (List D)} {e e1 e2 : En} {d : D} {ds : List D} (q : f e = .ok d e1) (r : g e1 = .ok ds e2) : consM f g e = .ok (d :: ds) e2 := by simp [q, r]
theorem st_call {Φ : Fun} {dds ds : List D} {fa : M (List D)} {e e1 : En} {d : D} {h' : List Ob} (q : fa e = .ok ds e1) (c : Φ (ds ++ dds) e1.h = .ok d h') : callM Φ dds fa e = .ok d ⟨e1.ρ, h'⟩ := by simp [q, c]
theorem st_call1 {Φ : Fun} {a : Nat} {ρ : List (Option D)} {h h' : List Ob} {x d : D} (qa : ρ[a]? = some (some x)) (c : Φ [x] h = .ok d h') : callM Φ [] (consM (eV a) nilM) ⟨ρ, h⟩ = .ok d ⟨ρ, h'⟩ := st_call (st_arg (st_v qa) st_arg0) c
theorem st_call2 {Φ : Fun} {a b : Nat} {ρ : List (Option D)} {h h' : List Ob} {x y d : D} (qa : ρ[a]? = some (some x)) (qb : ρ[b]? = some (some y)) (c : Φ [x, y] h = .ok d h') : callM Φ [] (consM (eV a) (consM (eV b) nilM)) ⟨ρ, h⟩ = .ok d ⟨ρ, h'⟩ := st_call (st_arg (st_v qa) (st_arg (st_v qb) st_arg0)) c
theorem st_e2 {g : List Ob → D → D → Option D} {f1 f2 : M D} {e e1 e2' : En} {x y z : D} (q1 : f1 e = .ok x e1) (q2 : f2 e1 = .ok y e2') (m : g e2'.h x y = some z) : e2 g f1 f2 e = .ok z e2' := by
  simp [q1, q2, m]
theorem st_bM {f : M D} {e e' : En} {b : Bool} (q : f e = .ok (.bl b) e') : bM f e = .ok b e' := by
  simp [q]
theorem st_be2 {g : List Ob → D → D → Option D} {f1 f2 : M D} {e e1 e2' : En} {x y : D} {b : Bool} (q1 : f1 e = .ok x e1) (q2 : f2 e1 = .ok y e2') (m : g e2'.h x y = some (.bl b)) : bM (e2 g f1 f2) e = .ok b e2' := st_bM (st_e2 q1 q2 m)
theorem st_not {c : M Bool} {e e' : En} {b : Bool} (q : c e = .ok b e') : notM c e = .ok (!b) e' := by simp [q]
theorem st_or_t {c d : M Bool} {e e' : En} (q : c e = .ok true e') : orM c d e = .ok true e' := by simp [q]
theorem st_or_f {c d : M Bool} {e e' : En} (q : c e = .ok false e') : orM c d e = d e' := by simp [q]
theorem st_and_t {c d : M Bool} {e e' : En} (q : c e = .ok true e') : andM c d e = d e' := by simp [q]
theorem st_and_f {c d : M Bool} {e e' : En} (q : c e = .ok false e') : andM c d e = .ok false e' := by simp [q]
theorem st_len {f : M D} {e e' : En} {xs : List D} (q : f e = .ok (.lst xs) e') : cN lenD (consM f nilM) e = .ok (.int (xs.length : Nat)) e' := by simp [q]
theorem st_lenT {f : M D} {e e' : En} {xs : List D} (q : f e = .ok (.tup xs) e') : cN lenD (consM f nilM) e = .ok (.int (xs.length : Nat)) e' := by simp [q]
theorem st_lenO {f : M D} {e e' : En} {d : D} {n : Int} (q : f e = .ok d e') (l : lenD e'.h [d] = some (.int n)) : cN lenD (consM f nilM) e = .ok (.int n) e' := by simp [q, l]
theorem st_for {fi : M (List D)} {b : D → En → Option En} {body : M Fl} {ds : List D} {e e1 : En} {r : Res Fl} (h : fi e = .ok ds e1) (k : forL b body ds e1 = r) : forM fi b body e = r := by rw [x_forM, x_bnd, h]; exact k
theorem st_def {n : Nat} {B : M Fl} {ds : List D} {ρ : List (Option D)} {h : List Ob} {d : D} {e : En} (st : start0 n ds = ρ) (q : B ⟨ρ, h⟩ = .ok (.rt d) e) : defF n B ds h = .ok d e.h := by
  subst st
  unfold defF
  rw [q]
theorem st_rng {f : M (List D)} {e e1 : En} {n : Nat} (h : f e = .ok [.int (n : Nat)] e1) (h1 : n ≤ 900000) : rng1 f e = .ok ((List.range' 0 n).map fun i => .int ((i : Nat) : Int)) e1 := by
  have rl : rangeL 0 ((n : Nat) : Int).toNat = (List.range' 0 n).map fun i => D.int ((i : Nat) : Int) := by
    rw [Int.toNat_natCast, ← List.range_eq_range']
    simp [rangeL]
  have hr : -4611686018427387904 ≤ ((n : Nat) : Int) ∧ ((n : Nat) : Int) < 4611686018427387904 := by omega
  rw [← rl]
  simp [h, hr]
theorem st_rngI {f : M (List D)} {e e1 : En} {j : Int} (h : f e = .ok [.int j] e1) (h0 : 0 ≤ j) (h1 : j ≤ 1000000) : rng1 f e = .ok (rangeL 0 j.toNat) e1 := by
  have hr : -4611686018427387904 ≤ j ∧ j < 4611686018427387904 := by omega
  simp [h, hr]
theorem for_ex {b : D → En → Option En} {body : M Fl} {d : D} {ds : List D} {e e1 e2 : En} {x : Str} {fs : List (Str × D)} (hb : b d e = some e1) (h : body e1 = .ex x fs e2) : forL b body (d :: ds) e = .ex x fs e2 := by
  conv => lhs; unfold forL
  rw [hb]
  dsimp only
  rw [h]
theorem st_seqX {f g : M Fl} {e e' : En} {x : Str} {fs : List (Str × D)} (q : f e = .ex x fs e') : seqM f g e = .ex x fs e' := by simp [q]
theorem st_exprX {f : M D} {e e' : En} {x : Str} {fs : List (Str × D)} (q : f e = .ex x fs e') : exprM f e = .ex x fs e' := by simp [q]
theorem st_callX {Φ : Fun} {dds ds : List D} {fa : M (List D)} {e e1 : En} {x : Str} {fs : List (Str × D)} {h' : List Ob} (q : fa e = .ok ds e1) (c : Φ (ds ++ dds) e1.h = .ex x fs h') : callM Φ dds fa e = .ex x fs ⟨e1.ρ, h'⟩ := by simp [q, c]
theorem st_call1X {Φ : Fun} {a : Nat} {ρ : List (Option D)} {h h' : List Ob} {y : D} {x : Str} {fs : List (Str × D)} (qa : ρ[a]? = some (some y)) (c : Φ [y] h = .ex x fs h') : callM Φ [] (consM (eV a) nilM) ⟨ρ, h⟩ = .ex x fs ⟨ρ, h'⟩ := st_callX (st_arg (st_v qa) st_arg0) c
theorem st_kind {f : M D} {e e' : En} {d : D} (q : f e = .ok d e') : kindM f e = .ok d e' := by
  unfold kindM
  rw [q]
theorem st_kindX {f : M D} {e e' : En} {x : Str} {fs : List (Str × D)} {d : D} (q : f e = .ex x fs e') (k : kindD x fs = some d) : kindM f e = .ok d e' := by
  unfold kindM
  rw [q]
  dsimp only
  rw [k]
theorem st_defX {n : Nat} {B : M Fl} {ds : List D} {ρ : List (Option D)} {h : List Ob} {x : Str} {fs : List (Str × D)} {e : En} (st : start0 n ds = ρ) (q : B ⟨ρ, h⟩ = .ex x fs e) : defF n B ds h = .ex x fs e.h := by
  subst st
  unfold defF
  rw [q]
theorem st_par2 {i j : Nat} {f g : M D} {e e1 e2 : En} {x y : D} (q : f e = .ok x e1) (r : g e1 = .ok y e2) : parM i j (consM f (consM g nilM)) e = .ok .nx ⟨(e2.ρ.set i (some x)).set j (some y), e2.h⟩ := by simp [q, r]
end Fv


set_option autoImplicit false
set_option Elab.async false
set_option linter.all false
set_option maxRecDepth 100000
set_option maxHeartbeats 4000000
namespace Lk04
open PySem PySem.Spec PyProof.Rows L2 Bm Fv
theorem mixed_ok (cs : List Int) : ∀ (ns : List Int) (x : Int) (a2 : Option D), 0 ≤ x → x < 2147483647 → ∃ y a2', 0 ≤ y ∧ y < 2147483647 ∧ forL (putS 2) (setM (e2 modD (e2 addD (e2 addD (e2 mulA (eV 1) (ret (.int (48271)))) (eV 2)) (ret (.int (7)))) (ret (.int (2147483647)))) (putS 1)) (ns.map D.int) ⟨[some (.scr (cs.map D.int)), some (.int x), a2], []⟩ = .ok .nx ⟨[some (.scr (cs.map D.int)), some (.int y), a2'], []⟩
  | [], x, a2, h0, h1 => ⟨x, a2, h0, h1, rfl⟩
  | n :: ns, x, a2, h0, h1 => by
    obtain ⟨y, a2', y0, y1, e⟩ := mixed_ok cs ns ((x * 48271 + n + 7) % 2147483647) (some (.int n)) (Int.emod_nonneg _ (by decide)) (Int.emod_lt_of_pos _ (by decide))
    refine ⟨y, a2', y0, y1, ?_⟩
    rw [← e]
    have cm : CMul x 48271 := .inr (by omega)
    simp [cm]
theorem start_ok (ns : List Int) : ∃ x : Int, 0 ≤ x ∧ x < 2147483647 ∧ F_law_start [.scr (ns.map D.int)] [] = .ok (.ref 0) [.lst [.scr (ns.map D.int), .int 0, .int x, .int 0]] := by
  obtain ⟨y, a2', y0, y1, e⟩ := mixed_ok ns ns 1 none (by decide) (by decide)
  refine ⟨y, y0, y1, ?_⟩
  simp [F_law_start, B_law_start, stayOf, e]
theorem start_st (ns : List Int) : ∃ h0, F_law_start [.scr (ns.map D.int)] [] = .ok (.ref 0) h0 ∧ StD 0 h0 := by
  obtain ⟨x, x0, x1, e⟩ := start_ok ns
  exact ⟨_, e, _, rfl, ns, 0, x, 0, rfl, by decide, x0, x1, by decide⟩
/-! the law -/
section
variable (w : World)
noncomputable def turn_law : M Fl :=
  (seqM (setM (frzM (lstM (consM (callM F_law_drawn [] (consM (eV 1) (consM (ret (.int (65536))) nilM))) (consM (e2 subD (e2 addD (e2 mulA (callM F_law_drawn [] (consM (eV 1) (consM (ret (.int (16))) nilM))) (ret (.int (4096)))) (ret (.int (4096)))) (callM F_law_drawn [] (consM (eV 1) (consM (ret (.int (200))) nilM)))) nilM)))) (putS 3))
  (seqM (setM (e2 ixD (eV 3) (callM F_law_drawn [] (consM (eV 1) (consM (ret (.int (2))) nilM)))) (putS 3))
  (seqM (setM (callM F_law_drawn [] (consM (eV 1) (consM (ret (.int (65536))) nilM))) (putS 4))
  (seqM (setM (callM F_law_drawn [] (consM (eV 1) (consM (ret (.int (199))) nilM))) (putS 12))
  (seqM (setM (pubM (ret (.td w []))) (putS 5))
  (seqM (forM (rng2 (consM (eV 3) (consM (e2 addD (eV 3) (ret (.int (200)))) nilM))) (putS 6) (seqM (setM (e2 addD (e2 mul0D (tupM (consM (ret (.int (0))) nilM)) (eV 12)) (tupM (consM (e2 modD (eV 6) (ret (.int (65536)))) (consM (eV 4) nilM)))) (putS 11))
  (seqM (setM (kindM (callM F_unpacked [] (consM (eV 11) (consM (eV 12) nilM)))) (putS 7))
  (ifS (bM (e2 neD (eV 7) (ret (.str "NoDeed"))))
  (seqM (setM (eV 7) (tupG 2 (consG (putS 8) (consG (putS 9) nilG))))
  (seqM (ifS (orM (bM (e2 neD (callM F_packed [] (consM (eV 8) (consM (eV 12) nilM))) (slM (eV 11) (prt (some (eV 12))) (prt (some (e2 addD (eV 12) (eV 9))))))) (bM (e2 (inTD w) (eV 8) (eV 5))))
  (retM (ret (.bl false)))
  (ret .nx))
  (tputM w (eV 5) (eV 8) (ret (.bl true)))))
  (ret .nx)))))
  (seqM (setM (callM F_law_deed [] (consM (eV 1) (consM (eV 12) (consM (ret (.int (199))) nilM)))) (putS 8))
  (seqM (setM (callM F_packed [] (consM (eV 8) (consM (eV 12) nilM))) (putS 10))
  (ifS (bM (e2 neD (callM F_unpacked [] (consM (e2 addD (e2 mul0D (tupM (consM (ret (.int (0))) nilM)) (eV 12)) (eV 10)) (consM (eV 12) nilM))) (tupM (consM (eV 8) (consM (cN lenD (consM (eV 10) nilM)) nilM)))))
  (retM (ret (.bl false)))
  (ret .nx))))))))))
noncomputable def word_law : M Fl :=
  (seqM (setM (e2 addD (e2 mul0D (tupM (consM (ret (.int (0))) nilM)) (eV 12)) (tupM (consM (e2 modD (eV 6) (ret (.int (65536)))) (consM (eV 4) nilM)))) (putS 11))
  (seqM (setM (kindM (callM F_unpacked [] (consM (eV 11) (consM (eV 12) nilM)))) (putS 7))
  (ifS (bM (e2 neD (eV 7) (ret (.str "NoDeed"))))
  (seqM (setM (eV 7) (tupG 2 (consG (putS 8) (consG (putS 9) nilG))))
  (seqM (ifS (orM (bM (e2 neD (callM F_packed [] (consM (eV 8) (consM (eV 12) nilM))) (slM (eV 11) (prt (some (eV 12))) (prt (some (e2 addD (eV 12) (eV 9))))))) (bM (e2 (inTD w) (eV 8) (eV 5))))
  (retM (ret (.bl false)))
  (ret .nx))
  (tputM w (eV 5) (eV 8) (ret (.bl true)))))
  (ret .nx))))
end
/-- a deed as data -/
def Dk.toP : Dk → PyData
  | .p0 w => .tuple [.str (Str.ofString w.s)]
  | .p1 w a => .tuple [.str (Str.ofString w.s), .int a]
  | .p2 w d a b => .tuple [.str (Str.ofString w.s), .int d, .int a, .int b]
  | .plus d a n => .tuple [.str "plus", .int d, .int a, .int n]
  | .set d n => .tuple [.str "set", .int d, .int n]
  | .high d n => .tuple [.str "high", .int d, .int n]
  | .load d a n => .tuple [.str "load", .int d, .int a, .int n]
  | .store d a n => .tuple [.str "store", .int d, .int a, .int n]
  | .jump w g far => .tuple [.str "jump", .str (Str.ofString w.s), .int g, .bool far]
  | .call g far => .tuple [.str "call", .int g, .bool far]
theorem Dk.data {go : Nat → Option PyData} (k : Dk) : toPW go k.toD = some k.toP := by
  cases k <;> simp [Dk.toD, Dk.toP, toPW, Fv.toPs]
theorem Dk.lay (k : Dk) : PyData.canLay0 k.toP = true ∧ PyData.depth k.toP = 1 ∧ PyData.eqv k.toP k.toP = true := by
  cases k <;> simp [Dk.toP, PyData.canLay0, PyData.canLayAll0, PyData.depth, PyData.depthAll, PyData.eqv, PyData.eqvAll]
theorem ne_told (k : Dk) (n : Int) (h : List Ob) : neD h (.tup [k.toD, .int n]) (.str "NoDeed") = some (.bl true) := by
  obtain ⟨a, b, _⟩ := k.lay
  simp [neD, eqF, Fv.dataOf, toPW, Fv.toPs, Dk.data, SeqAt.shaped, PyData.canLay0, PyData.canLayAll0, PyData.depth, PyData.depthAll, PyData.eqv, a, b]
theorem ne_deeds (k : Dk) (n : Int) (h : List Ob) : neD h (.tup [k.toD, .int n]) (.tup [k.toD, .int n]) = some (.bl false) := by
  obtain ⟨a, b, c⟩ := k.lay
  simp [neD, eqF, Fv.dataOf, toPW, Fv.toPs, Dk.data, SeqAt.shaped, PyData.canLay0, PyData.canLayAll0, PyData.depth, PyData.depthAll, PyData.eqv, PyData.eqvAll, a, b, c]
theorem ne_tints {h : List Ob} (xs : List Int) : neD h (.tup (xs.map .int)) (.tup (xs.map .int)) = some (.bl false) := by
  have a := layAll_ints xs
  simp [neD, eqF, Fv.dataOf, toPW, toPs_ints, SeqAt.shaped, PyData.canLay0, a, PyData.depth, PyData.eqv, eqvAll_ints]
theorem k_nodeed : kindD "NoDeed" [] = some (.str "NoDeed") := rfl
theorem unp_at {xs : List Int} (hw : ∀ w ∈ xs, Wd w) (hl : xs.length ≤ 200) {p u : Int} (p0 : 0 ≤ p) (hu : xs[p.toNat]? = some u) (h : List Ob) : F_unpacked [.tup (xs.map .int), .int p] h = (match decode u p xs[(p + 1).toNat]? with
    | none => .ex "NoDeed" [] h
    | some (k, n) => .ok (.tup [k.toD, .int n]) h) := by
  have r := unpacked_ok (Im.tup xs) rfl p h
  have hlt := (List.getElem?_eq_some_iff.mp hu).1
  unfold unpR at r
  rw [firstBad_none hw (by omega)] at r
  dsimp only at r
  rw [if_pos ⟨p0, by omega⟩, hu] at r
  exact r
theorem zeros_map (n : Nat) : (List.replicate n [D.int 0]).flatten = (List.replicate n (0 : Int)).map .int := by
  induction n with
  | zero => rfl
  | succ n ih => rw [List.replicate_succ, List.replicate_succ, List.flatten_cons, ih]; rfl
theorem mul_z {p : Int} (p0 : 0 ≤ p) (p1 : p ≤ 1000) (h : List Ob) : mul0D h (.tup [.int 0]) (.int p) = some (.tup ((List.replicate p.toNat (0 : Int)).map .int)) := by
  by_cases c : p = 0
  · subst c
    rfl
  · have e : mul0D h (.tup [.int 0]) (.int p) = mulA h (.tup [.int 0]) (.int p) := by
      unfold mul0D
      split
      · rename_i x y a xs hx hy
        cases hy
        exact absurd rfl c
      · rfl
    rw [e]
    show (if p = 1 then _ else _) = _
    by_cases c1 : p = 1
    · subst c1
      rfl
    · rw [if_neg c1, if_pos ⟨rfl, by omega, p1, by decide⟩, zeros_map]
theorem st_tup1 {f : M D} {e e1 : En} {x : D} (a : f e = .ok x e1) : tupM (consM f nilM) e = .ok (.tup [x]) e1 := by simp [a]
theorem st_tup2 {f g : M D} {e e1 e2 : En} {x y : D} (a : f e = .ok x e1) (b : g e1 = .ok y e2) : tupM (consM f (consM g nilM)) e = .ok (.tup [x, y]) e2 := by simp [a, b]
theorem st_slV {a : Nat} {lo hi : M (Option Int)} {ρ : List (Option D)} {h : List Ob} {xs : List D} {i j : Int} (v : ρ[a]? = some (some (.tup xs))) (q1 : lo ⟨ρ, h⟩ = .ok (some i) ⟨ρ, h⟩) (q2 : hi ⟨ρ, h⟩ = .ok (some j) ⟨ρ, h⟩) : slM (eV a) lo hi ⟨ρ, h⟩ = .ok (.tup (cut xs (some i) (some j))) ⟨ρ, h⟩ := by
  simp only [x_slM, x_bnd, st_v v, q1, q2, x_lft, x_sl1]
def picZ (p : Int) (rest : List Int) : List Int := List.replicate p.toNat 0 ++ rest
theorem picZ_wd {p : Int} {rest : List Int} (hr : ∀ x ∈ rest, Wd x) : ∀ x ∈ picZ p rest, Wd x := fun x m => by
  rcases List.mem_append.mp m with m | m
  · rw [(List.mem_replicate.mp m).2]
    exact ⟨by decide, by decide⟩
  · exact hr x m
theorem picZ_len {p : Int} {rest : List Int} : (picZ p rest).length = p.toNat + rest.length := by simp [picZ]
theorem picZ_at {p : Int} {rest : List Int} (p0 : 0 ≤ p) : (picZ p rest)[p.toNat]? = rest[0]? ∧ (picZ p rest)[(p + 1).toNat]? = rest[1]? := by
  have e : (p + 1).toNat = p.toNat + 1 := by omega
  unfold picZ
  rw [e, List.getElem?_append_right (by simp), List.getElem?_append_right (by simp)]
  simp
theorem picZ_drop {p : Int} {rest : List Int} : (picZ p rest).drop p.toNat = rest := by
  unfold picZ
  rw [List.drop_append_of_le_length (by simp)]
  simp
theorem set_same {h : List Ob} {L : Nat} {x : Ob} (q : h[L]? = some x) : h.set L x = h := by
  obtain ⟨h1, h2⟩ := List.getElem?_eq_some_iff.mp q
  rw [← h2, List.set_getElem_self]
theorem pic_set {w : World} {p m v : Int} (p0 : 0 ≤ p) (p1 : p < 199) (a0 a1 a2 a3 a5 a7 a8 a9 a10 a11 : Option D) (h : List Ob) :
    setM (e2 addD (e2 mul0D (tupM (consM (ret (.int (0))) nilM)) (eV 12)) (tupM (consM (e2 modD (eV 6) (ret (.int (65536)))) (consM (eV 4) nilM)))) (putS 11) ⟨[a0, a1, a2, a3, some (.int m), a5, some (.int v), a7, a8, a9, a10, a11, some (.int p)], h⟩ =
    .ok .nx ⟨[a0, a1, a2, a3, some (.int m), a5, some (.int v), a7, a8, a9, a10, some (.tup ((picZ p [v % 65536, m]).map .int)), some (.int p)], h⟩ := by
  have md : modD h (.int v) (.int 65536) = some (.int (v % 65536)) := by simp
  have ad : addD h (.tup ((List.replicate p.toNat (0 : Int)).map .int)) (.tup [.int (v % 65536), .int m]) = some (.tup ((picZ p [v % 65536, m]).map .int)) := by
    rw [x_add3, if_pos (by rw [sizeLine_eq, List.length_map, List.length_replicate]; simp only [List.length_cons, List.length_nil]; omega)]
    simp [picZ]
  exact st_set (st_e2 (st_e2 (st_tup1 rfl) (st_v rfl) (mul_z p0 (by omega) h)) (st_tup2 (st_e2 (st_v rfl) rfl md) (st_v rfl)) ad)
theorem word_u (w : World) : word_law w = seqM (setM (e2 addD (e2 mul0D (tupM (consM (ret (.int (0))) nilM)) (eV 12)) (tupM (consM (e2 modD (eV 6) (ret (.int (65536)))) (consM (eV 4) nilM)))) (putS 11))
  (seqM (setM (kindM (callM F_unpacked [] (consM (eV 11) (consM (eV 12) nilM)))) (putS 7))
  (ifS (bM (e2 neD (eV 7) (ret (.str "NoDeed"))))
  (seqM (setM (eV 7) (tupG 2 (consG (putS 8) (consG (putS 9) nilG))))
  (seqM (ifS (orM (bM (e2 neD (callM F_packed [] (consM (eV 8) (consM (eV 12) nilM))) (slM (eV 11) (prt (some (eV 12))) (prt (some (e2 addD (eV 12) (eV 9))))))) (bM (e2 (inTD w) (eV 8) (eV 5))))
  (retM (ret (.bl false)))
  (ret .nx))
  (tputM w (eV 5) (eV 8) (ret (.bl true)))))
  (ret .nx))) := rfl
theorem in_td {w : World} {h : List Ob} {L : Nat} {ks : List NestedKey} (q : h[L]? = some (.td w ks)) {k : Dk} (n : k.nk ∉ ks) : inTD w h k.toD (.ref L) = some (.bl false) := by
  rw [x_inTD, q]
  simp [k.keyN, n]
theorem put_td {w : World} {ρ : List (Option D)} {h : List Ob} {L : Nat} {ks : List NestedKey} (q : h[L]? = some (.td w ks)) {k : Dk} (n : k.nk ∉ ks) (hl : ks.length < 1000) (v5 : ρ[5]? = some (some (.ref L))) (v8 : ρ[8]? = some (some k.toD)) : tputM w (eV 5) (eV 8) (ret (.bl true)) ⟨ρ, h⟩ = .ok .nx ⟨ρ, h.set L (.td w (ks ++ [k.nk]))⟩ := by
  have p : putTD w h (.ref L) k.toD = some (h.set L (.td w (ks ++ [k.nk]))) := by
    unfold putTD
    dsimp only
    rw [q, k.keyN]
    dsimp only
    rw [if_pos ⟨rfl, by omega⟩, if_neg n]
  unfold tputM
  simp only [x_bnd, x_ret, st_v v5, st_v v8]
  rw [p]
theorem word_ok {w : World} {h : List Ob} {L : Nat} {ks : List NestedKey} (q : h[L]? = some (.td w ks)) (hl : ks.length < 1000) {p m v : Int} (p0 : 0 ≤ p) (p1 : p < 199) (hm : Wd m) (hne : ∀ x ∈ ks, ∃ k : Dk, x = k.nk ∧ (k.words p).head? ≠ some (v % 65536)) (a0 a1 a2 a3 a7 a8 a9 a10 a11 : Option D) :
    ∃ ks' b7 b8 b9 b11, word_law w ⟨[a0, a1, a2, a3, some (.int m), some (.ref L), some (.int v), a7, a8, a9, a10, a11, some (.int p)], h⟩ =
      .ok .nx ⟨[a0, a1, a2, a3, some (.int m), some (.ref L), some (.int v), b7, b8, b9, a10, b11, some (.int p)], h.set L (.td w ks')⟩ ∧ (ks' = ks ∨ ∃ k : Dk, ks' = ks ++ [k.nk] ∧ (k.words p).head? = some (v % 65536)) := by
  have hv : Wd (v % 65536) := ⟨Int.emod_nonneg _ (by decide), Int.emod_lt_of_pos _ (by decide)⟩
  have hx : ∀ x ∈ [v % 65536, m], Wd x := fun x hx => by
    rcases List.mem_cons.mp hx with rfl | hx
    · exact hv
    · rw [List.mem_singleton.mp hx]
      exact hm
  obtain ⟨g1, g2⟩ := picZ_at (rest := [v % 65536, m]) p0
  have u := unp_at (picZ_wd (p := p) hx) (by rw [picZ_len]; simp only [List.length_cons, List.length_nil]; omega) p0 g1 h
  rw [g2] at u
  have s1 := pic_set (w := w) (m := m) (v := v) p0 p1 a0 a1 a2 a3 (some (.ref L)) a7 a8 a9 a10 a11 h
  obtain ⟨U, eU⟩ : ∃ U, U = v % 65536 := ⟨_, rfl⟩
  rw [← eU] at u s1 hne hv g1 hx ⊢
  obtain ⟨X, eX⟩ : ∃ X, X = picZ p [U, m] := ⟨_, rfl⟩
  rw [← eX] at u s1
  cases e : decode U p (some m) with
  | none =>
    rw [show ([U, m] : List Int)[1]? = some m from rfl, e] at u
    refine ⟨ks, some (.str "NoDeed"), a8, a9, some (.tup (X.map .int)), ?_, .inl rfl⟩
    rw [set_same q, word_u, st_seq s1, st_seq (st_set (st_kindX (st_callX (e1 := ⟨[a0, a1, a2, a3, some (.int m), some (.ref L), some (.int v), a7, a8, a9, a10, some (.tup (X.map .int)), some (.int p)], h⟩) (st_arg (f := eV 11) (st_v rfl) (st_arg (f := eV 12) (st_v rfl) st_arg0)) u) k_nodeed))]
    dsimp only [List.set]
    exact (st_if_f (st_be2 (st_v rfl) rfl (by simp))).trans rfl
  | some kn =>
    obtain ⟨k, n⟩ := kn
    rw [show ([U, m] : List Int)[1]? = some m from rfl, e] at u
    obtain ⟨ok, en⟩ := enc_dec hv p0 (by omega) (fun v hv => by cases hv; exact hm) e
    have hd : (k.words p).head? = some U := by
      rcases en with ⟨_, en⟩ | ⟨_, v, _, en⟩ <;> rw [en] <;> rfl
    have nin : k.nk ∉ ks := fun mem => by
      obtain ⟨k', ek, ne⟩ := hne _ mem
      rw [← nk_inj ek] at ne
      exact ne hd
    have pk := pk_k p0 (by omega) ok h
    have ct : cut (X.map D.int) (some p) (some (p + n)) = (k.words p).map .int := by
      have n0 : 0 ≤ p + n := by rcases en with ⟨rfl, _⟩ | ⟨rfl, _⟩ <;> omega
      rw [cut_mid p0 n0, ← List.map_drop, eX, picZ_drop, ← List.map_take]
      rcases en with ⟨rfl, en⟩ | ⟨rfl, v, ev, en⟩
      · rw [en, show (p + 1).toNat - p.toNat = 1 by omega]
        rfl
      · cases ev
        rw [en, show (p + 2).toNat - p.toNat = 2 by omega]
        rfl
    refine ⟨ks ++ [k.nk], some (.tup [k.toD, .int n]), some k.toD, some (.int n), some (.tup (X.map .int)), ?_, .inr ⟨k, rfl, hd⟩⟩
    obtain ⟨ρ, eρ⟩ : ∃ ρ, ρ = [a0, a1, a2, a3, some (.int m), some (.ref L), some (.int v), some (.tup [k.toD, .int n]), some k.toD, some (.int n), a10, some (.tup (X.map .int)), some (.int p)] := ⟨_, rfl⟩
    have v5 : ρ[5]? = some (some (.ref L)) := by rw [eρ]; rfl
    have v8 : ρ[8]? = some (some k.toD) := by rw [eρ]; rfl
    have v9 : ρ[9]? = some (some (.int n)) := by rw [eρ]; rfl
    have v11 : ρ[11]? = some (some (.tup (X.map .int))) := by rw [eρ]; rfl
    have v12 : ρ[12]? = some (some (.int p)) := by rw [eρ]; rfl
    have sl : slM (eV 11) (prt (some (eV 12))) (prt (some (e2 addD (eV 12) (eV 9)))) ⟨ρ, h⟩ = .ok (.tup ((k.words p).map .int)) ⟨ρ, h⟩ := by
      rw [← ct]
      exact st_slV v11 (by simp [v12]) (by simp [v12, v9])
    have t1 : bM (e2 neD (callM F_packed [] (consM (eV 8) (consM (eV 12) nilM))) (slM (eV 11) (prt (some (eV 12))) (prt (some (e2 addD (eV 12) (eV 9)))))) ⟨ρ, h⟩ = .ok false ⟨ρ, h⟩ := st_be2 (st_call2 v8 v12 pk) sl (ne_tints _)
    have t2 : bM (e2 (inTD w) (eV 8) (eV 5)) ⟨ρ, h⟩ = .ok false ⟨ρ, h⟩ := st_be2 (st_v v8) (st_v v5) (in_td q nin)
    rw [word_u, st_seq s1, st_seq (st_set (st_kind (st_call2 (by rfl) (by rfl) u)))]
    dsimp only [List.set]
    have s3 : setM (eV 7) (tupG 2 (consG (putS 8) (consG (putS 9) nilG))) ⟨[a0, a1, a2, a3, some (.int m), some (.ref L), some (.int v), some (.tup [k.toD, .int n]), a8, a9, a10, some (.tup (X.map .int)), some (.int p)], h⟩ = .ok .nx ⟨ρ, h⟩ := by
      rw [eρ]
      simp
    refine (st_if_t (st_be2 (st_v rfl) rfl (ne_told k n h))).trans ?_
    rw [st_seq s3]
    refine (st_seq ((st_if_f ((st_or_f t1).trans t2)).trans rfl)).trans ?_
    rw [put_td q nin hl v5 v8, eρ]
theorem words_loop {w : World} {L : Nat} {p m : Int} (p0 : 0 ≤ p) (p1 : p < 199) (hm : Wd m) (a0 a1 a2 a3 a10 : Option D) : ∀ (vs : List Int) (h : List Ob) (ks : List NestedKey) (a6 a7 a8 a9 a11 : Option D), h[L]? = some (.td w ks) → ks.length + vs.length ≤ 1000 → vs.Pairwise (fun a b => a % 65536 ≠ b % 65536) → (∀ x ∈ ks, ∃ k : Dk, x = k.nk ∧ ∀ v ∈ vs, (k.words p).head? ≠ some (v % 65536)) →
    ∃ ks' b6 b7 b8 b9 b11, forL (putS 6) (word_law w) (vs.map .int) ⟨[a0, a1, a2, a3, some (.int m), some (.ref L), a6, a7, a8, a9, a10, a11, some (.int p)], h⟩ =
      .ok .nx ⟨[a0, a1, a2, a3, some (.int m), some (.ref L), b6, b7, b8, b9, a10, b11, some (.int p)], h.set L (.td w ks')⟩
  | [], h, ks, a6, a7, a8, a9, a11, q, _, _, _ => ⟨ks, a6, a7, a8, a9, a11, by rw [set_same q]; rfl⟩
  | v :: vs, h, ks, a6, a7, a8, a9, a11, q, hl, pw, hk => by
    obtain ⟨pw1, pw2⟩ := List.pairwise_cons.mp pw
    rw [List.length_cons] at hl
    obtain ⟨ks1, b7, b8, b9, b11, e, hk1⟩ := word_ok q (by omega) p0 p1 hm (v := v) (fun x mx => by
      obtain ⟨k, ek, nk⟩ := hk x mx
      exact ⟨k, ek, nk v List.mem_cons_self⟩) a0 a1 a2 a3 a7 a8 a9 a10 a11
    have lL : L < h.length := (List.getElem?_eq_some_iff.mp q).1
    have q1 : (h.set L (.td w ks1))[L]? = some (.td w ks1) := by rw [List.getElem?_set_self lL]
    have l1 : ks1.length ≤ ks.length + 1 := by
      rcases hk1 with rfl | ⟨k, rfl, _⟩
      · omega
      · simp
    obtain ⟨ks2, c6, c7, c8, c9, c11, e2'⟩ := words_loop p0 p1 hm a0 a1 a2 a3 a10 vs (h.set L (.td w ks1)) ks1 (some (.int v)) b7 b8 b9 b11 q1 (by omega) pw2 (fun x mx => by
      rcases hk1 with rfl | ⟨k, rfl, hd⟩
      · obtain ⟨k, ek, nk⟩ := hk x mx
        exact ⟨k, ek, fun u mu => nk u (List.mem_cons_of_mem _ mu)⟩
      · rcases List.mem_append.mp mx with mx | mx
        · obtain ⟨k, ek, nk⟩ := hk x mx
          exact ⟨k, ek, fun u mu => nk u (List.mem_cons_of_mem _ mu)⟩
        · rw [List.mem_singleton.mp mx]
          refine ⟨k, rfl, fun u mu z => ?_⟩
          rw [hd] at z
          exact pw1 u mu (Option.some.inj z))
    refine ⟨ks2, c6, c7, c8, c9, c11, ?_⟩
    rw [List.map_cons]
    refine (for_step rfl e).trans ?_
    rw [e2', List.set_set]
theorem st_rng2 {f : M (List D)} {e e1 : En} {i j : Int} (h : f e = .ok [.int i, .int j] e1) (h0 : -1000000 ≤ i) (h1 : i ≤ 1000000) (h2 : -1000000 ≤ j) (h3 : j ≤ 1000000) : rng2 f e = .ok (rangeL i (j - i).toNat) e1 := by
  rw [x_rng2, x_bnd, h]
  show (lft _ : M (List D)) _ = _
  rw [x_lft]
  dsimp only
  rw [if_pos ⟨by omega, by omega, by omega, by omega⟩]
def runI (lo : Int) (n : Nat) : List Int := (List.range n).map fun i => lo + ((i : Nat) : Int)
theorem rangeL_run (lo : Int) (n : Nat) : rangeL lo n = (runI lo n).map .int := by
  unfold rangeL runI
  rw [List.map_map]
  rfl
theorem run_pw (lo : Int) : (runI lo 200).Pairwise (fun a b => a % 65536 ≠ b % 65536) := by
  unfold runI
  rw [List.pairwise_map]
  refine List.Pairwise.imp_of_mem (fun {a b} ma mb hab => ?_) List.pairwise_lt_range
  have := List.mem_range.mp ma
  have := List.mem_range.mp mb
  omega
theorem run_len (lo : Int) (n : Nat) : (runI lo n).length = n := by simp [runI]
theorem unp_words {p : Int} (p0 : 0 ≤ p) (p1 : p < 199) {k : Dk} (o : k.ok p) (h : List Ob) : F_unpacked [.tup ((picZ p (k.words p)).map .int), .int p] h = .ok (.tup [k.toD, .int ((k.words p).length : Nat)]) h := by
  obtain ⟨ww, wl, _⟩ := Dk.words_ok o
  obtain ⟨g1, g2⟩ := picZ_at (rest := k.words p) p0
  have hl : (picZ p (k.words p)).length ≤ 200 := by rw [picZ_len]; omega
  cases c : k.two with
  | false =>
    obtain ⟨u, e, d⟩ := dec1 o p0 c none
    have r := unp_at (picZ_wd (p := p) ww) hl p0 (u := u) (by rw [g1, e]; rfl) h
    rw [g2, e] at r
    rw [show ([u] : List Int)[1]? = none from rfl, d] at r
    rw [e]
    exact r
  | true =>
    obtain ⟨u, g, e, d⟩ := dec2 (p := p) c
    have r := unp_at (picZ_wd (p := p) ww) hl p0 (u := u) (by rw [g1, e]; rfl) h
    rw [g2, e] at r
    rw [show ([u, g] : List Int)[1]? = some g from rfl, d] at r
    rw [e]
    exact r
theorem st_twoE {X Y : M D} {e e1 e2' : En} {a b : D} (x : X e = .ok a e1) (y : Y e1 = .ok b e2') : frzM (lstM (consM X (consM Y nilM))) e = .ok (.lst [a, b]) e2' := by simp [x, y]
theorem st_td {w : World} {i : Nat} {ρ : List (Option D)} {h : List Ob} : setM (pubM (ret (.td w []))) (putS i) ⟨ρ, h⟩ = .ok .nx ⟨ρ.set i (some (.ref h.length)), h ++ [.td w []]⟩ := by simp
theorem turn_u (w : World) : turn_law w = seqM (setM (frzM (lstM (consM (callM F_law_drawn [] (consM (eV 1) (consM (ret (.int (65536))) nilM))) (consM (e2 subD (e2 addD (e2 mulA (callM F_law_drawn [] (consM (eV 1) (consM (ret (.int (16))) nilM))) (ret (.int (4096)))) (ret (.int (4096)))) (callM F_law_drawn [] (consM (eV 1) (consM (ret (.int (200))) nilM)))) nilM)))) (putS 3))
  (seqM (setM (e2 ixD (eV 3) (callM F_law_drawn [] (consM (eV 1) (consM (ret (.int (2))) nilM)))) (putS 3))
  (seqM (setM (callM F_law_drawn [] (consM (eV 1) (consM (ret (.int (65536))) nilM))) (putS 4))
  (seqM (setM (callM F_law_drawn [] (consM (eV 1) (consM (ret (.int (199))) nilM))) (putS 12))
  (seqM (setM (pubM (ret (.td w []))) (putS 5))
  (seqM (forM (rng2 (consM (eV 3) (consM (e2 addD (eV 3) (ret (.int (200)))) nilM))) (putS 6) (word_law w))
  (seqM (setM (callM F_law_deed [] (consM (eV 1) (consM (eV 12) (consM (ret (.int (199))) nilM)))) (putS 8))
  (seqM (setM (callM F_packed [] (consM (eV 8) (consM (eV 12) nilM))) (putS 10))
  (ifS (bM (e2 neD (callM F_unpacked [] (consM (e2 addD (e2 mul0D (tupM (consM (ret (.int (0))) nilM)) (eV 12)) (eV 10)) (consM (eV 12) nilM))) (tupM (consM (eV 8) (consM (cN lenD (consM (eV 10) nilM)) nilM)))))
  (retM (ret (.bl false)))
  (ret .nx))))))))) := rfl
theorem st_dr {Φ : Fun} {ρ : List (Option D)} {h h' : List Ob} {st : Nat} {m r : Int} (v : ρ[1]? = some (some (.ref st))) (e : Φ [.ref st, .int m] h = .ok (.int r) h') : callM Φ [] (consM (eV 1) (consM (ret (.int m)) nilM)) ⟨ρ, h⟩ = .ok (.int r) ⟨ρ, h'⟩ := st_call (e1 := ⟨ρ, h⟩) (st_arg (st_v v) (st_arg (f := ret (.int m)) rfl st_arg0)) e
theorem turn_ok (w : World) {st : Nat} {h : List Ob} (S : StD st h) (a0 a2 a3 a4 a5 a6 a7 a8 a9 a10 a11 a12 : Option D) :
    ∃ b3 b4 b5 b6 b7 b8 b9 b10 b11 b12 h', turn_law w ⟨[a0, some (.ref st), a2, a3, a4, a5, a6, a7, a8, a9, a10, a11, a12], h⟩ = .ok .nx ⟨[a0, some (.ref st), a2, b3, b4, b5, b6, b7, b8, b9, b10, b11, b12], h'⟩ ∧ StD st h' := by
  obtain ⟨r1, h1, e1, r10, r11, S1, _⟩ := draw S 65536 (by decide) (by decide)
  obtain ⟨r2, h2, e2', r20, r21, S2, _⟩ := draw S1 16 (by decide) (by decide)
  obtain ⟨r3, h3, e3, r30, r31, S3, _⟩ := draw S2 200 (by decide) (by decide)
  obtain ⟨r4, h4, e4, r40, r41, S4, _⟩ := draw S3 2 (by decide) (by decide)
  obtain ⟨m, h5, e5, m0, m1, S5, _⟩ := draw S4 65536 (by decide) (by decide)
  obtain ⟨p, h6, e6, p0, p1, S6, _⟩ := draw S5 199 (by decide) (by decide)
  have mu : ∀ h : List Ob, mulA h (.int r2) (.int 4096) = some (.int (r2 * 4096)) := fun h => by simp [show CMul r2 4096 from .inr (by omega)]
  have s1 : setM (frzM (lstM (consM (callM F_law_drawn [] (consM (eV 1) (consM (ret (.int (65536))) nilM))) (consM (e2 subD (e2 addD (e2 mulA (callM F_law_drawn [] (consM (eV 1) (consM (ret (.int (16))) nilM))) (ret (.int (4096)))) (ret (.int (4096)))) (callM F_law_drawn [] (consM (eV 1) (consM (ret (.int (200))) nilM)))) nilM)))) (putS 3) ⟨[a0, some (.ref st), a2, a3, a4, a5, a6, a7, a8, a9, a10, a11, a12], h⟩ = .ok .nx ⟨[a0, some (.ref st), a2, some (.lst [.int r1, .int (r2 * 4096 + 4096 - r3)]), a4, a5, a6, a7, a8, a9, a10, a11, a12], h3⟩ :=
    st_set (st_twoE (st_dr rfl e1) (st_e2 (st_e2 (st_e2 (st_dr rfl e2') rfl (mu _)) rfl rfl) (st_dr rfl e3) rfl))
  obtain ⟨F, eF, F0, F1⟩ : ∃ F : Int, atI [D.int r1, .int (r2 * 4096 + 4096 - r3)] r4 = some (.int F) ∧ 0 ≤ F ∧ F ≤ 65536 := by
    rcases (by omega : r4 = 0 ∨ r4 = 1) with rfl | rfl
    · exact ⟨r1, rfl, by omega, by omega⟩
    · exact ⟨r2 * 4096 + 4096 - r3, rfl, by omega, by omega⟩
  have s2 : setM (e2 ixD (eV 3) (callM F_law_drawn [] (consM (eV 1) (consM (ret (.int (2))) nilM)))) (putS 3) ⟨[a0, some (.ref st), a2, some (.lst [.int r1, .int (r2 * 4096 + 4096 - r3)]), a4, a5, a6, a7, a8, a9, a10, a11, a12], h3⟩ = .ok .nx ⟨[a0, some (.ref st), a2, some (.int F), a4, a5, a6, a7, a8, a9, a10, a11, a12], h4⟩ := st_set (st_e2 (st_v rfl) (st_dr rfl e4) (show ixD h4 _ _ = _ by rw [x_ix1]; exact eF))
  have s3 : setM (callM F_law_drawn [] (consM (eV 1) (consM (ret (.int (65536))) nilM))) (putS 4) ⟨[a0, some (.ref st), a2, some (.int F), a4, a5, a6, a7, a8, a9, a10, a11, a12], h4⟩ = .ok .nx ⟨[a0, some (.ref st), a2, some (.int F), some (.int m), a5, a6, a7, a8, a9, a10, a11, a12], h5⟩ := st_set (st_dr rfl e5)
  have s4 : setM (callM F_law_drawn [] (consM (eV 1) (consM (ret (.int (199))) nilM))) (putS 12) ⟨[a0, some (.ref st), a2, some (.int F), some (.int m), a5, a6, a7, a8, a9, a10, a11, a12], h5⟩ = .ok .nx ⟨[a0, some (.ref st), a2, some (.int F), some (.int m), a5, a6, a7, a8, a9, a10, a11, some (.int p)], h6⟩ := st_set (st_dr rfl e6)
  have sl := S6.lt
  have q : (h6 ++ [Ob.td w []])[h6.length]? = some (.td w []) := by simp
  obtain ⟨ks', b6, b7, b8, b9, b11, lp⟩ := words_loop (w := w) (L := h6.length) p0 p1 ⟨m0, m1⟩ a0 (some (.ref st)) a2 (some (.int F)) a10 (runI F 200) (h6 ++ [.td w []]) [] a6 a7 a8 a9 a11 q (by rw [run_len]; decide) (run_pw F) (fun x mx => nomatch mx)
  have fi : rng2 (consM (eV 3) (consM (e2 addD (eV 3) (ret (.int (200)))) nilM)) ⟨[a0, some (.ref st), a2, some (.int F), some (.int m), some (.ref h6.length), a6, a7, a8, a9, a10, a11, some (.int p)], h6 ++ [.td w []]⟩ = .ok ((runI F 200).map .int) ⟨[a0, some (.ref st), a2, some (.int F), some (.int m), some (.ref h6.length), a6, a7, a8, a9, a10, a11, some (.int p)], h6 ++ [.td w []]⟩ := by
    have := st_rng2 (f := consM (eV 3) (consM (e2 addD (eV 3) (ret (.int (200)))) nilM)) (e := ⟨[a0, some (.ref st), a2, some (.int F), some (.int m), some (.ref h6.length), a6, a7, a8, a9, a10, a11, some (.int p)], h6 ++ [.td w []]⟩) (i := F) (j := F + 200) (st_arg (st_v rfl) (st_arg (st_e2 (st_v rfl) rfl rfl) st_arg0)) (by omega) (by omega) (by omega) (by omega)
    rw [show (F + 200 - F).toNat = 200 by omega, rangeL_run] at this
    exact this
  obtain ⟨H, eH⟩ : ∃ H, H = (h6 ++ [Ob.td w []]).set h6.length (.td w ks') := ⟨_, rfl⟩
  rw [← eH] at lp
  have SH : StD st H := by
    rw [eH]
    exact StD.set S6.app (by omega)
  obtain ⟨k, h7, e7, ok, S7, _⟩ := deed_ok SH (p := p) (most := 199) p0 (by omega) (by decide) (by decide)
  have pk := pk_k p0 (by omega) ok h7
  have un := unp_words p0 p1 ok h7
  obtain ⟨_, wl, _⟩ := Dk.words_ok ok
  have s7 : setM (callM F_law_deed [] (consM (eV 1) (consM (eV 12) (consM (ret (.int (199))) nilM)))) (putS 8) ⟨[a0, some (.ref st), a2, some (.int F), some (.int m), some (.ref h6.length), b6, b7, b8, b9, a10, b11, some (.int p)], H⟩ = .ok .nx ⟨[a0, some (.ref st), a2, some (.int F), some (.int m), some (.ref h6.length), b6, b7, some k.toD, b9, a10, b11, some (.int p)], h7⟩ := st_set (st_call (e1 := ⟨[a0, some (.ref st), a2, some (.int F), some (.int m), some (.ref h6.length), b6, b7, b8, b9, a10, b11, some (.int p)], H⟩) (st_arg (f := eV 1) (st_v rfl) (st_arg (f := eV 12) (st_v rfl) (st_arg (f := ret (.int (199))) rfl st_arg0))) e7)
  obtain ⟨ws, ew⟩ : ∃ ws, ws = k.words p := ⟨_, rfl⟩
  rw [← ew] at pk un wl
  obtain ⟨ρ, eρ⟩ : ∃ ρ, ρ = [a0, some (.ref st), a2, some (.int F), some (.int m), some (.ref h6.length), b6, b7, some k.toD, b9, some (.tup (ws.map .int)), b11, some (.int p)] := ⟨_, rfl⟩
  have v8 : ρ[8]? = some (some k.toD) := by rw [eρ]; rfl
  have v10 : ρ[10]? = some (some (.tup (ws.map .int))) := by rw [eρ]; rfl
  have v12 : ρ[12]? = some (some (.int p)) := by rw [eρ]; rfl
  have s8 : setM (callM F_packed [] (consM (eV 8) (consM (eV 12) nilM))) (putS 10) ⟨[a0, some (.ref st), a2, some (.int F), some (.int m), some (.ref h6.length), b6, b7, some k.toD, b9, a10, b11, some (.int p)], h7⟩ = .ok .nx ⟨ρ, h7⟩ := by
    rw [eρ]
    exact st_set (st_call2 rfl rfl pk)
  have ad : addD h7 (.tup ((List.replicate p.toNat (0 : Int)).map .int)) (.tup (ws.map .int)) = some (.tup ((picZ p ws).map .int)) := by
    rw [x_add3, if_pos (by rw [sizeLine_eq, List.length_map, List.length_replicate, List.length_map]; omega)]
    simp [picZ]
  have im : e2 addD (e2 mul0D (tupM (consM (ret (.int (0))) nilM)) (eV 12)) (eV 10) ⟨ρ, h7⟩ = .ok (.tup ((picZ p ws).map .int)) ⟨ρ, h7⟩ := st_e2 (st_e2 (st_tup1 rfl) (st_v v12) (mul_z p0 (by omega) h7)) (st_v v10) ad
  have t1 : bM (e2 neD (callM F_unpacked [] (consM (e2 addD (e2 mul0D (tupM (consM (ret (.int (0))) nilM)) (eV 12)) (eV 10)) (consM (eV 12) nilM))) (tupM (consM (eV 8) (consM (cN lenD (consM (eV 10) nilM)) nilM)))) ⟨ρ, h7⟩ = .ok false ⟨ρ, h7⟩ := by
    have ln := st_lenT (st_v (h := h7) v10)
    rw [List.length_map] at ln
    exact st_be2 (st_call (st_arg im (st_arg (st_v v12) st_arg0)) un) (st_tup2 (st_v v8) ln) (ne_deeds k _ h7)
  refine ⟨some (.int F), some (.int m), some (.ref h6.length), b6, b7, some k.toD, b9, some (.tup (ws.map .int)), b11, some (.int p), h7, ?_, S7⟩
  rw [turn_u, st_seq s1, st_seq s2, st_seq s3, st_seq s4, st_seq st_td]
  dsimp only [List.set]
  rw [st_seq (st_for fi lp), st_seq s7, st_seq s8]
  refine (st_if_f t1).trans ?_
  rw [eρ]
  rfl
theorem law_plain (w : World) (ns : List Int) (hl : ns.length ≤ 63) : ∃ h', F_law w [.scr (ns.map D.int)] [] = .ok (.bl true) h' := by
  obtain ⟨h0, e, S⟩ := start_st ns
  obtain ⟨b3, b4, b5, b6, b7, b8, b9, b10, b11, b12, h1, t1, S1⟩ := turn_ok w S (some (.scr (ns.map D.int))) (some (.int 0)) none none none none none none none none none none
  obtain ⟨c3, c4, c5, c6, c7, c8, c9, c10, c11, c12, h2, t2, S2⟩ := turn_ok w S1 (some (.scr (ns.map D.int))) (some (.int 1)) b3 b4 b5 b6 b7 b8 b9 b10 b11 b12
  obtain ⟨d3, d4, d5, d6, d7, d8, d9, d10, d11, d12, h3, t3, S3⟩ := turn_ok w S2 (some (.scr (ns.map D.int))) (some (.int 2)) c3 c4 c5 c6 c7 c8 c9 c10 c11 c12
  refine ⟨h3, ?_⟩
  have r : rangeL 0 3 = [.int 0, .int 1, .int 2] := rfl
  have u : forL (putS 2) (turn_law w) (rangeL 0 3) ⟨[some (.scr (ns.map D.int)), some (.ref 0), none, none, none, none, none, none, none, none, none, none, none], h0⟩ = .ok .nx ⟨[some (.scr (ns.map D.int)), some (.ref 0), some (.int 2), d3, d4, d5, d6, d7, d8, d9, d10, d11, d12], h3⟩ := by
    rw [r]
    exact (for_step rfl t1).trans ((for_step rfl t2).trans ((for_step rfl t3).trans rfl))
  have ul : B_law w = seqM (setM (callM F_law_start [] (consM (eV 0) nilM)) (putS 1)) (seqM (forM (rng1 (consM (ret (.int (3))) nilM)) (putS 2) (turn_law w)) (retM (ret (.bl true)))) := rfl
  have fi : rng1 (consM (ret (.int (3))) nilM) ⟨[some (.scr (ns.map D.int)), some (.ref 0), none, none, none, none, none, none, none, none, none, none, none], h0⟩ = .ok (rangeL 0 3) ⟨[some (.scr (ns.map D.int)), some (.ref 0), none, none, none, none, none, none, none, none, none, none, none], h0⟩ := st_rngI (j := 3) (by simp) (by decide) (by decide)
  refine st_def (n := 13) (B := B_law w) (ds := [.scr (ns.map D.int)]) (h := []) (d := .bl true) (e := ⟨[some (.scr (ns.map D.int)), some (.ref 0), some (.int 2), d3, d4, d5, d6, d7, d8, d9, d10, d11, d12], h3⟩) (ρ := [some (.scr (ns.map D.int)), none, none, none, none, none, none, none, none, none, none, none, none]) rfl ?_
  rw [ul, st_seq (st_set (st_call1 rfl e))]
  dsimp only [List.set]
  rw [st_seq (st_for fi u)]
  rfl
end Lk04


set_option autoImplicit false
set_option Elab.async false
set_option linter.all false
set_option maxRecDepth 100000
set_option maxHeartbeats 0
namespace Lk04
open PySem PySem.Spec PyProof.Rows L2 Bm
theorem atS {w : World} {K : PySem.W.Frag} {h : Heap} {mg : Str → Option Value} {f : Addr} (X : K.In h) (G : h.Ns mainGlobals mg) (hmg : mg ("law" : Str) = some (.ref f)) (c : He.SaysX fa fn [] tf xAll w h K) :
    LamX.LawAtS PySem.Challenge.rw_bitmill_k04_whole_words_and_deeds_go_ove w K CX0 9 63 "_law_script" mg f h := by
  have T : Txt K mg := txt_of X G c
  have Df : Defs K := defs_of c
  obtain ⟨fd, F⟩ := Df.law
  have e := hmg.symm.trans T.g_law
  cases e
  have b := FunD.bindsA (ps := ["_law_script"]) F fun _ _ _ _ _ _ us hl => match us, hl with | [_], _ => rfl
  have ht : (("law", none) : He.Defn) ∈ tf := List.mem_singleton.mpr rfl
  refine ⟨fd, [He.cT K ("law", none)], Fv.spLaw K, fun p hp => ?_, fun p hp => ?_, fun p hp => ?_, fun s u => b s [u] rfl, fun H a ns hl hb ht hS => ?_, fun base hK hN hT => ?_⟩
  · rw [List.mem_singleton.mp hp]
    exact c.empty _ ht
  · rw [List.mem_singleton.mp hp]
    exact c.out _ ht
  · rw [List.mem_singleton.mp hp]
    exact PySem.W.codeHd_of_K X (c.hd _ ht)
  · exact ⟨a, ns, rfl, hS, hl, ht _ (List.mem_singleton.mpr rfl), fun _ => rfl⟩
  · exact ok_law T Df (hT _ (List.mem_singleton.mpr rfl)) F (law_plain _)
end Lk04
open PySem PySem.W PySem.Calls PyProof.Rows
theorem PySem.Challenge.cw_bitmill_k04_whole_words_and_deeds_go_ove_holds : PySem.Challenge.rw_bitmill_k04_whole_words_and_deeds_go_ove.Holds := by
  w_on; o_law
  refine HandSHeadRun.head_any (r := OpenLaw.row PySem.Challenge.rw_bitmill_k04_whole_words_and_deeds_go_ove) (q := view (OpenLaw.row PySem.Challenge.rw_bitmill_k04_whole_words_and_deeds_go_ove).prog [45]) (H := Lk04.hk) (ob := Lk04.ob) (M := 9000) (loose := Lk04.names) (d := HandSHeadRun.topDef (OpenLaw.row PySem.Challenge.rw_bitmill_k04_whole_words_and_deeds_go_ove).prog 45) (kwd := []) Lk04.ob_eq
    (by kernel_rfl) (fun s => by kernel_rfl) Lk04.run (by kernel_rfl) (by kernel_rfl) (by kernel_rfl) (by rfl) (by first | assumption | decide +kernel) (by decide +kernel) ⟨rfl, rfl, rfl, rfl, rfl, by decide +kernel⟩ ?hw ?hc
  case hw => w_witness2
  case hc =>
    refine LamX.walk_ofTsE (l := PySem.Challenge.rw_bitmill_k04_whole_words_and_deeds_go_ove) (n := 63) (k := 9) (x := "_law_script") (CX := fun _ => L2.CX0) rfl (by decide) (by kernel_rfl) ⟨rfl, by decide, by decide⟩ ?F (fun _ _ _ _ _ z => z)
    intro w mg fa h Y G hmg0
    obtain ⟨K, KX, c⟩ := Y
    have hmg : mg ("law" : PySem.Str) = some (.ref fa) := by
      have e : (HandSHeadRun.topDef (OpenLaw.row PySem.Challenge.rw_bitmill_k04_whole_words_and_deeds_go_ove).prog 45).name = ("law" : PySem.Str) := by kernel_rfl
      rw [← e]
      exact hmg0
    exact ⟨K, KX, Lk04.atS KX G hmg c⟩

