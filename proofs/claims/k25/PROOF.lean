import PyProof.Rows.All
import Wide.All
import OpenK.AllK
import Wide.FinOn
import KE.KStateDown
import KE.KExcIs
import HandS.ForMost
import HandS.ForExc
import HandS.Evl
import HandS.Defaults
import HandS.IsInst
import HandS.ExcInit
import HandS.ExcIs
import HandS.ExcField
import HandS.Lambda
import HandS.EndTab
import HandS.CallSlots
import HandS.Head2
import HandS.HeadHook4
import HandS.HeadNt
import HandS.HeadWalk
import HandS.StrMore
import HandS.Flow
import KE.GoesEnum
import KE.GoesMore
import HandS.TupAny
import HandS.WideBits
import HandS.Walk
import HandS.Text
import KE.IntBitsLaws
import PySem.Challenge.RW_bitmill_k25_whole_any_turned_bit_is_mend
set_option Elab.async false
set_option linter.all false
set_option maxRecDepth 100000
set_option maxHeartbeats 4000000
namespace Bm
open PySem PySem.Spec PyProof.Rows L2

/-! ### defs as they are called -/
structure Fn (P : Program) (w : World) (K : PySem.W.Frag) (mg : Str → Option Value) (base : Heap) (CX : CXT) (k : Nat) (x : Str) (sp : Sp) (dvs : List V) : Prop where
  ex : ∃ (f : Addr) (fd : FuncData) (ps : List Str) (ds : List Value), mg x = some (.ref f) ∧ PySem.W.keepIn K (.ref f) = true ∧ L2.Binds K fd ps ds ∧ Vals dvs ds ∧ FnOk P w K mg base CX k f fd ps sp
theorem pe_f {X : Cx} {CX : CXT} {k j : Nat} {x : Str} {sp : Sp} {dvs : List V} {E : XK} {e : Expr} {es : List Expr} {t : TA} {p pos : Pos} (c : Fn X.prog X.w X.K X.mg X.base CX k x sp dvs) (hr : Room j X.A) (hk : k ≤ j) (hx : Passes CX X E) (ha : PA X (e :: es) t) (hg : Gl X x := by rfl)
    (hdb : (x == ("__debug__" : Str)) = false := by decide) (he : starEach (e :: es) X.env = (false, eval e X.env) :: starEach es X.env := by rfl) (hpl : (backTo pos (starEach es X.env)).any (·.1) = false := by rfl) :
    PE X (.Call (.Name x p) (e :: es) [] pos) (tCall sp dvs E t) := by
  obtain ⟨f, fd, ps, ds, hm, hkp, hb, hd, F⟩ := c.ex
  exact pe_call F (hr.mono hk) hg hm hkp hb hd hx ha hdb he hpl

/-! ### list.count of flat things -/
section
variable {X : Cx}
def rCntF (K : PySem.W.Frag) : V → List V → Hp → VK → Prop := fun x xs H Q => ∃ (p : Addr) (ys : List V) (y : V), x = .ref p ∧ xs = [y] ∧ SqL K H p ys ∧ flatV y = true ∧ ys.all flatV = true ∧ Q (.int (ys.countP (fun z => eqV z y) : Nat)) H
theorem cnt_eq {y : V} : ∀ {ys : List V} {us : List Value}, Vals ys us → ys.all flatV = true → us.countP (eqU y) = ys.countP (fun z => eqV z y)
  | _, _, .nil, _ => rfl
  | z :: ys, u :: us, .cons r t, f => by
    rw [List.all_cons, Bool.and_eq_true] at f
    rw [List.countP_cons, List.countP_cons, cnt_eq t f.2, eqU_of r f.1]
theorem mt_lcountF : MtR X "list.count" (rCntF X.K) := by
  intro pins s σ H x xs v us Q I rx rxs h
  obtain ⟨p, ys, y, rfl, rfl, hs, fy, fys, q⟩ := h
  cases rx
  cases rxs with
  | cons ry rt =>
    rename_i uy ut
    cases rt
    obtain ⟨its, rv, ⟨⟨cls, dd, data, sl⟩, n, ho, hc, hdn, hd⟩, hlen⟩ := I.list hs
    simp only at hc hd
    subst hc hd
    refine call_meets PySem.F.slot_list_count ⟨_, ho, rfl⟩ PySem.F.entry_list_count (PySem.F.args_list_count_2 _ _)
      (SeqAt.list_countAt p its.toArray n dd sl uy (eqU y)) ⟨ho, fun u hu => mem_eqAt ry fy rv fys u (by simpa using hu), ?_⟩
    have ec : its.toArray.toList.countP (eqU y) = ys.countP (fun z => eqV z y) := cnt_eq rv fys
    refine ⟨.int (ys.countP (fun z => eqV z y) : Nat), H, I.tok _, ⟨s.toks, ?_⟩, q⟩
    show Value.int ((its.toArray.toList.countP (eqU y) : Nat) : Int) s.toks = Value.int ((ys.countP (fun z => eqV z y) : Nat) : Int) s.toks
    rw [ec]
end

/-! ### isinstance(e, C) of the caught exception, its class any of ours -/
def rIsX (K : PySem.W.Frag) (a : Addr) (cls : Value) (d : Option Addr) : List V → Hp → VK → Prop := fun xs H Q => ∃ (D : Addr) (c : V) (cv : Value) (b : Bool), cls = .ref D ∧ ExcC K D ∧ (d = none ∨ ∃ dd fs, d = some dd ∧ H dd = some (.xd fs)) ∧
  xs = [.ref a, c] ∧ (∀ u, RelV c u → u = cv) ∧ PySem.W.kitOne K (.ref D) cv = some b ∧ Q (.bl b) H
theorem call_isX {X : Cx} {a : Addr} {cls : Value} {d : Option Addr} {oe : Obj} {pn : List (Addr × Obj)} (hz : Zc cls d oe) (hf : ∃ vs, oe.data = .fields vs) : CallR (X.suite a ((a, oe) :: pn)) (.builtin "isinstance") (rIsX X.K a cls d) := by
  intro pins s σ H xs us Q I r h
  obtain ⟨D, c, cv, b, rfl, C, hd, rfl, hcv, e, q⟩ := h
  cases r with
  | cons rx rr =>
    cases rr with
    | cons rt rr =>
      cases rr
      cases rx
      have ec := hcv _ rt
      subst ec
      obtain ⟨hget, _⟩ := I.pin (a, oe) (List.mem_append.mpr (.inl List.mem_cons_self))
      obtain ⟨vs, hv⟩ := hf
      have J : ∃ od, PySem.W.InstAt s.heap a oe D od := by
        obtain ⟨oc, odi, oda, osl⟩ := oe
        obtain ⟨h1, h2⟩ := hz
        dsimp only at h1 h2 hv
        subst h1 h2 hv
        rcases hd with hd | ⟨dd, fs, hd, hH⟩
        · subst hd
          exact ⟨none, hget, rfl, rfl, trivial⟩
        · subst hd
          have hx : ObjOk X.prog X.w H s.heap dd (.xd fs) := I.hok dd _ hH
          obtain ⟨mA, ⟨od, es, ep, ho, hr⟩, _⟩ := hx
          exact ⟨some od, hget, rfl, rfl, ho⟩
      obtain ⟨od, J⟩ := J
      have hcl : (PySem.W.clsIn X.K D).isSome = true := by
        obtain ⟨cd, hc, _⟩ := PySem.W.any_some C.hd
        rw [hc] <;> rfl
      exact PySem.W.kia_one (PySem.W.kitx_exc (ox := oe) (od := od) hcl C.hg C.hk C.hs C.ha C.hn C.ht C.hm) I.kIn J e (fun z => nomatch z) fun tk => ⟨.bl b, H, I.kept (t' := tk) fun _ _ z => z, rfl, q⟩

/-! ### M.__init__(self, ..), M a class of the program over ValueError without an __init__ -/
theorem pe_minit {X : Cx} {x : Str} {CM : Addr} {e : Expr} {es : List Expr} {ta : TA} {p1 p2 pos : Pos} {pl : Sem Bool} (hg : Gl X x) (hm : X.mg x = some (.ref CM)) (hs : PySem.W.specialIn X.K (.ref CM) "__getattribute__" = some (some (.builtin "type.__getattribute__"))) (hrd : PySem.W.readsIn X.K CM (.type "type") = true)
    (vV : PySem.W.findCls X.K (.ref CM) (.type "type") "__init__" = some (.val (.builtin "ValueError.__init__"))) (ha : PA X (e :: es) ta) (hdb : (x == ("__debug__" : Str)) = false := by decide)
    (hc : eval (.Call (.Attribute (.Name x p1) "__init__" p2) (e :: es) [] pos) X.env = (do
      let ov ← eval (.Name x p1) X.env
      standAt p2.atName
      let (f, first) ← holding [ov] (getMethod ov "__init__" pl)
      callWith pos f first (backTo pos (starEach (e :: es) X.env)) (backToKw pos (keywordEach [] X.env))) := by rfl)
    (he : starEach (e :: es) X.env = (false, eval e X.env) :: starEach es X.env := by rfl) (hpl : (backTo pos (starEach es X.env)).any (·.1) = false := by rfl) :
    PE X (.Call (.Attribute (.Name x p1) "__init__" p2) (e :: es) [] pos) (tVeI X.K ta) := by
  refine ⟨fun pins s σ H Q I h => ?_⟩
  refine PySem.W.methodCall_KW (ld_glob I hg hm ?_ hdb) hc
  refine PySem.W.method_cls I.kIn hs (PySem.W.cls_value I.kIn hrd vV (by decide +kernel) ?_)
  show wpAny _ _ (callWith pos (Value.builtin "ValueError.__init__") [] (backTo pos (starEach (e :: es) X.env)) []) _ _ _
  refine PyProof.Rows.callWith_method1 (thn (ha.run pos pins _ σ H _ (I.tok _) h) fun us s1 ⟨vs, H1, I1, r1, a, C, ws, ev, hl, T, ea, q⟩ => ?_) he hpl
  subst ev
  cases r1 with
  | @cons _ u0 _ ur ra rw' =>
    obtain rfl : u0 = Value.ref a := ra
    have hlen : ur.length ≤ sizeLine := by
      rw [← Paired.length rw', sizeLine_eq]
      omega
    exact oinit_ok T I1 ea hlen fun s' J => ⟨.non, H1, J, rfl, q⟩
end Bm


set_option Elab.async false
set_option linter.all false
set_option maxRecDepth 100000
set_option maxHeartbeats 4000000
namespace Bm
open PySem PySem.Spec PyProof.Rows L2 He
/-! ### the hook: what the top leaves, the statics among it -/
def asB (g : Addr → Option Obj) (n : Nat) : List Addr := He.asD g n ++ [cStatics]
def obsB (n : Nat) (fa : List Fa) (fn : List DefD) (ts : List Tab) (tf : List Defn) (ex : PySem.W.Frag → Bool) (g : Addr → Option Obj) : AlX := (obsT fa fn ts (frT g (asB g n)), ex (frT g (asB g n)) && tabsB g tf (frT g (asB g n)))
theorem saysB_of {n : Nat} {fa : List Fa} {fn : List DefD} {ts : List Tab} {tf : List Defn} {ex : PySem.W.Frag → Bool} {w : World} {h : Heap} (e : obsB n fa fn ts tf ex h.get? = valX fn ts w) : SaysX fa fn ts tf ex w h (frT h.get? (asB h.get? n)) := by
  have e1 : obsT fa fn ts (frT h.get? (asB h.get? n)) = valT fn ts w := congrArg (fun z : AlX => z.1) e
  have e2 : (ex (frT h.get? (asB h.get? n)) && tabsB h.get? tf (frT h.get? (asB h.get? n))) = true := congrArg (fun z : AlX => z.2) e
  obtain ⟨h1, h2⟩ := ba e2
  have key : ∀ p ∈ tf, PySem.W.codeHdIn (frT h.get? (asB h.get? n)) (cT (frT h.get? (asB h.get? n)) p).1 (cT (frT h.get? (asB h.get? n)) p).2 = true ∧ ∃ o, h.get? (cT (frT h.get? (asB h.get? n)) p).2 = some o ∧ emptyTab o = true := fun p hp => by
    obtain ⟨h3, h4⟩ := ba (List.all_eq_true.mp h2 p hp)
    refine ⟨h3, ?_⟩
    cases q : h.get? (cT (frT h.get? (asB h.get? n)) p).2 with
    | none =>
      rw [q] at h4
      cases h4
    | some o =>
      rw [q] at h4
      exact ⟨o, rfl, h4⟩
  exact ⟨e1, h1, fun p hp => (key p hp).1, fun p hp => by
    obtain ⟨_, o, q, z⟩ := key p hp
    exact frT_none q z, fun p hp => by
    obtain ⟨_, o, q, z⟩ := key p hp
    rw [q, emptyTab_eq z]⟩
def hookB (n : Nat) (fa : List Fa) (fn : List DefD) (ts : List Tab) (tf : List Defn) (ex : PySem.W.Frag → Bool) : PySem.W.Hook where
  α := AlX
  obs := fun s => obsB n fa fn ts tf ex s.heap.get?
  val := fun w => valX fn ts w
  says := fun w h => ∃ K : PySem.W.Frag, K.In h ∧ SaysX fa fn ts tf ex w h K
  of := fun _ _ e => ⟨_, frT_in, saysB_of e⟩
  keeps := fun _ _ _ ⟨K, hK, c⟩ k => ⟨K, PySem.W.Frag.In.keeps hK k, ⟨c.t, c.more, c.hd, c.out, fun p hp => k _ _ (c.empty p hp)⟩⟩
theorem obsB_eq {n : Nat} {fa : List Fa} {fn : List DefD} {ts : List Tab} {tf : List Defn} {ex : PySem.W.Frag → Bool} {g : Addr → Option Obj} {s : Shared} (h : ∀ a, g a = s.heap.get? a) : obsB n fa fn ts tf ex g = (hookB n fa fn ts tf ex).obs s := by
  have e : g = s.heap.get? := funext h
  rw [e] <;> rfl
/-! ### facts of classes of exceptions, as Bools -/
def oexB (K : PySem.W.Frag) (C : Addr) : Bool := (match K.lookup C with
  | some ⟨.type t, dd, .cls cd, sl⟩ => (match cd.mro, sl.toList with
    | .ref C' :: bm, [_, _, _, _, some (.builtin n), _] => decide (t = "type") && (decide (C' = C) && (decide (n = "ValueError.__new__") && (!cd.hasDel && (cd.hasDict && PySem.HandSPX.refsVE bm))))
    | _, _ => false)
  | _ => false) && (eqO (PySem.W.findIn K (.ref C) "__setattr__") (some (some (.builtin "object.__setattr__"))) && (decide (PySem.W.subIn K (.ref C) (.type "BaseException") = some true) && (decide (PySem.W.typeIn K (.ref C) = some (.type "type")) && PySem.W.keepIn K (.ref C))))
theorem oexB_ok {K : PySem.W.Frag} {C : Addr} (h : oexB K C = true) : OexC K C := by
  obtain ⟨h1, h⟩ := ba h
  obtain ⟨h2, h⟩ := ba h
  obtain ⟨h3, h⟩ := ba h
  obtain ⟨h4, h5⟩ := ba h
  refine ⟨?_, eqO_ok h2, of_decide_eq_true h3, of_decide_eq_true h4, h5⟩
  cases q : K.lookup C with
  | none =>
    rw [q] at h1
    cases h1
  | some o =>
    obtain ⟨oc, od, dt, sl⟩ := o
    rw [q] at h1
    cases oc with
    | type t =>
      cases dt with
      | cls cd =>
        obtain ⟨nm, bs, mro, ns, qn, hd, sn, sub, ab, col, del⟩ := cd
        obtain ⟨l⟩ := sl
        dsimp only at h1
        split at h1
        · rename_i C' bm k0 k1 k2 k3 n k5
          obtain ⟨e1, h1⟩ := ba h1
          obtain ⟨e2, h1⟩ := ba h1
          obtain ⟨e3, h1⟩ := ba h1
          obtain ⟨e4, h1⟩ := ba h1
          obtain ⟨e5, e6⟩ := ba h1
          have e1 := of_decide_eq_true e1
          have e2 := of_decide_eq_true e2
          have e3 := of_decide_eq_true e3
          subst e1 e2 e3
          have e4 : del = false := by
            cases del with
            | false => rfl
            | true => cases e4
          subst e4
          have e5 : hd = true := e5
          subst e5
          exact ⟨nm, qn, ns, bs, bm, sn, sub, ab, col, od, k0, k1, k2, k3, k5, rfl, e6⟩
        · cases h1
      | _ => cases h1
    | _ => cases dt <;> cases h1
def excCB (K : PySem.W.Frag) (D : Addr) : Bool := eqO (PySem.W.findIn K (.ref D) "__getattribute__") (some (some (.builtin "BaseException.__getattribute__"))) && (eqO (PySem.W.findIn K (.ref D) "__getattr__") (some none) && (decide (PySem.W.subIn K (.ref D) (.type "BaseException") = some true) &&
  (PySem.W.hasDictIn K D && (eqO (PySem.W.findIn K (.ref D) "__class__") (some (some (.builtin "object.__class__"))) && (eqO (PySem.W.specialIn K (.builtin "object.__class__") "__get__") (some (some (.builtin "getset_descriptor.__get__"))) &&
  (decide (PySem.W.takesIn K (.builtin "object.__class__") = some true) && decide (PySem.W.mroIn K D (.type "object") = some true)))))))
theorem excCB_ok {K : PySem.W.Frag} {D : Addr} (h : excCB K D = true) : ExcC K D := by
  obtain ⟨h1, h⟩ := ba h
  obtain ⟨h2, h⟩ := ba h
  obtain ⟨h3, h⟩ := ba h
  obtain ⟨h4, h⟩ := ba h
  obtain ⟨h5, h⟩ := ba h
  obtain ⟨h6, h⟩ := ba h
  obtain ⟨h7, h8⟩ := ba h
  exact ⟨eqO_ok h1, eqO_ok h2, of_decide_eq_true h3, h4, eqO_ok h5, eqO_ok h6, of_decide_eq_true h7, of_decide_eq_true h8⟩
end Bm


set_option Elab.async false
set_option linter.all false
set_option maxRecDepth 100000
set_option maxHeartbeats 4000000
namespace Bm
open PySem PySem.Spec PyProof.Rows L2 He
/-! ### the errors' classes -/
def plainX : List Str := ["BadDeed", "BadReach", "NoDeed", "BadCount", "NoMend"]
def numX : List Str := ["BadImage", "BadGiven", "BadList"]
def allX : List Str := ["BadDeed", "BadReach", "NoDeed", "BadCount", "NoMend", "BadImage", "BadGiven", "BadList", "BadRow"]
def xB (K : PySem.W.Frag) : Bool :=
  (allX.all fun x => decide (PySem.W.exmOne K (.ref (ga K x)) (.ref (ga K "MillError")) = some true) && (excCB K (ga K x) && (decide (PySem.W.kitOne K (.ref (ga K x)) (.type "ValueError") = some true) && allX.all fun y => decide (PySem.W.kitOne K (.ref (ga K x)) (.ref (ga K y)) = some (decide (x = y)))))) &&
  ((plainX.all fun x => (Fa.exc x).ok K) &&
  ((numX.all fun x => oexB K (ga K x) && (eqO (PySem.W.findIn K (.ref (ga K x)) "__init__") (some (some (.ref (ma K (ga K "Numbered") "__init__")))) && (eqO (PySem.W.findIn K (.ref (ga K x)) "number") (some none) && xfB K (ga K x)))) &&
  (oexB K (ga K "BadRow") && (eqO (PySem.W.findIn K (.ref (ga K "BadRow")) "__init__") (some (some (.ref (ma K (ga K "BadRow") "__init__")))) && (eqO (PySem.W.findIn K (.ref (ga K "BadRow")) "row") (some none) && (eqO (PySem.W.findIn K (.ref (ga K "BadRow")) "why") (some none) && (xfB K (ga K "BadRow") &&
  (decide (PySem.W.typeIn K (.ref (ma K (ga K "Numbered") "__init__")) = some (.type "function")) && (decide (PySem.W.typeIn K (.ref (ma K (ga K "BadRow") "__init__")) = some (.type "function")) &&
  (eqO (PySem.W.specialIn K (.ref (ga K "MillError")) "__getattribute__") (some (some (.builtin "type.__getattribute__"))) && (PySem.W.readsIn K (ga K "MillError") (.type "type") &&
  (match PySem.W.findCls K (.ref (ga K "MillError")) (.type "type") "__init__" with
    | some (.val (.builtin n)) => decide (n = "ValueError.__init__")
    | _ => false))))))))))))
structure XF (K : PySem.W.Frag) : Prop where
  exm : ∀ x ∈ allX, PySem.W.exmOne K (.ref (ga K x)) (.ref (ga K "MillError")) = some true
  exc : ∀ x ∈ allX, ExcC K (ga K x)
  kitV : ∀ x ∈ allX, PySem.W.kitOne K (.ref (ga K x)) (.type "ValueError") = some true
  kit : ∀ x ∈ allX, ∀ y ∈ allX, PySem.W.kitOne K (.ref (ga K x)) (.ref (ga K y)) = some (decide (x = y))
  plain : ∀ x ∈ plainX, PySem.W.excIn K (ga K x) veBase "ValueError.__new__" = true ∧ PySem.W.keepIn K (.ref (ga K x)) = true ∧ PySem.W.subIn K (.ref (ga K x)) (.type "BaseException") = some true ∧ PySem.W.typeIn K (.ref (ga K x)) = some (.type "type")
  num : ∀ x ∈ numX, OexC K (ga K x) ∧ PySem.W.findIn K (.ref (ga K x)) "__init__" = some (some (.ref (ma K (ga K "Numbered") "__init__"))) ∧ PySem.W.findIn K (.ref (ga K x)) "number" = some none ∧ XfC K (ga K x)
  rowO : OexC K (ga K "BadRow")
  rowI : PySem.W.findIn K (.ref (ga K "BadRow")) "__init__" = some (some (.ref (ma K (ga K "BadRow") "__init__")))
  rowR : PySem.W.findIn K (.ref (ga K "BadRow")) "row" = some none
  rowW : PySem.W.findIn K (.ref (ga K "BadRow")) "why" = some none
  rowX : XfC K (ga K "BadRow")
  tyN : PySem.W.typeIn K (.ref (ma K (ga K "Numbered") "__init__")) = some (.type "function")
  tyR : PySem.W.typeIn K (.ref (ma K (ga K "BadRow") "__init__")) = some (.type "function")
  mS : PySem.W.specialIn K (.ref (ga K "MillError")) "__getattribute__" = some (some (.builtin "type.__getattribute__"))
  mR : PySem.W.readsIn K (ga K "MillError") (.type "type") = true
  mV : PySem.W.findCls K (.ref (ga K "MillError")) (.type "type") "__init__" = some (.val (.builtin "ValueError.__init__"))
theorem xB_ok {K : PySem.W.Frag} (h : xB K = true) : XF K := by
  obtain ⟨h1, h⟩ := ba h
  obtain ⟨h2, h⟩ := ba h
  obtain ⟨h3, h⟩ := ba h
  obtain ⟨h4, h⟩ := ba h
  obtain ⟨h5, h⟩ := ba h
  obtain ⟨h6, h⟩ := ba h
  obtain ⟨h7, h⟩ := ba h
  obtain ⟨h8, h⟩ := ba h
  obtain ⟨h9, h⟩ := ba h
  obtain ⟨h10, h⟩ := ba h
  obtain ⟨h11, h⟩ := ba h
  obtain ⟨h12, h13⟩ := ba h
  have a1 := fun x hx => ba (List.all_eq_true.mp h1 x hx)
  refine ⟨fun x hx => of_decide_eq_true (a1 x hx).1, fun x hx => excCB_ok (ba (a1 x hx).2).1, fun x hx => of_decide_eq_true (ba (ba (a1 x hx).2).2).1, fun x hx y hy => of_decide_eq_true (List.all_eq_true.mp (ba (ba (a1 x hx).2).2).2 y hy),
    fun x hx => exc_ok (List.all_eq_true.mp h2 x hx), fun x hx => ?_, oexB_ok h4, eqO_ok h5, eqO_ok h6, eqO_ok h7, xfB_ok h8, of_decide_eq_true h9, of_decide_eq_true h10, eqO_ok h11, h12, ?_⟩
  · obtain ⟨b1, b⟩ := ba (List.all_eq_true.mp h3 x hx)
    obtain ⟨b2, b⟩ := ba b
    obtain ⟨b3, b4⟩ := ba b
    exact ⟨oexB_ok b1, eqO_ok b2, eqO_ok b3, xfB_ok b4⟩
  · generalize PySem.W.findCls K (.ref (ga K "MillError")) (.type "type") "__init__" = r at h13
    split at h13
    · rw [of_decide_eq_true h13]
    · cases h13
end Bm


set_option Elab.async false
set_option linter.all false
set_option maxRecDepth 100000
set_option maxHeartbeats 4000000
namespace PySem
open PyProof.Rows
section
variable {prog : Program} {w : World} {A : Around} {E : Value → Shared → Prop} {s : Shared}
set_option maxHeartbeats 1000000 in
theorem bm_enum_new1 {v : Value} {o : Obj} {H : Heap → Prop} (B : Begins v o H) :
    Meets (Builtin.«enumerate.__new__» ⟨[.type "enumerate", v], []⟩) (fun _ R s => H s.heap ∧
      R (.ok (.ret (.ref (s.heap.push o).objs.size))) { s with heap := (s.heap.push o).push { cls := .type "enumerate", data := .fields #[.none, .bool false, .ref s.heap.objs.size, rawInt 0, .none, .none] } }) :=
  .of_wp fun prog w A R s h => by
    obtain ⟨hp, g, d, tk, os⟩ := s; obtain ⟨h1, h⟩ := h
    have hsub := sub_enumerate
    have q1 : ∀ {A' : Around} {E : Value → Shared → Prop} {Q : Value → Shared → Prop}, Q (.ref hp.objs.size) ⟨hp.push o, g, d, tk, os⟩ → wpAny (model prog w) A' (pyIter v) Q E ⟨hp, g, d, tk, os⟩ :=
      fun q => B.iter prog w _ _ ⟨hp, g, d, tk, os⟩ _ h1 q
    wp_walk using q1
    refine wpAny_stack_any fun st => wpAny_pure ?_
    split
    · rename_i c _ _ _ _ _
      cases (c == Value.type "enumerate")
      · wp_walk using q1
        exact ⟨_, rfl, h⟩
      · wp_walk using q1
        exact ⟨_, rfl, h⟩
    · wp_walk using q1
      exact ⟨_, rfl, h⟩
theorem bm_enum_begins {v : Value} {o : Obj} {H : Heap → Prop} {Q : Value → Shared → Prop} (B : Begins v o H) (h1 : H s.heap)
    (h : ∀ h', IsEnum h' (s.heap.objs.size + 1) s.heap.objs.size 0 .none → h'.get? s.heap.objs.size = some o → h'.objs.size = s.heap.objs.size + 2 →
      (∀ b o, s.heap.get? b = some o → h'.get? b = some o) → Q (.ref (s.heap.objs.size + 1)) { s with heap := h' }) :
    wpAny (model prog w) A (call (.type "enumerate") [v]) Q E s := by
  refine callType_new F.called_enumerate (by decide) (F.typeCall_enumerate_1 _) (F.newCall_enumerate_1 _) (fun obj => F.args_object_init_2 obj _) F.entry_enumerate_new
    (bm_enum_new1 B) ⟨h1, ?_⟩
  have hz : (s.heap.push o).objs.size = s.heap.objs.size + 1 := Heap.size_push ..
  show _ ∧ _
  rw [hz]
  have he : IsEnum ((s.heap.push o).push { cls := .type "enumerate", data := .fields #[.none, .bool false, .ref s.heap.objs.size, rawInt 0, .none, .none] }) (s.heap.objs.size + 1) s.heap.objs.size 0 .none := by
    have := Heap.get?_push_size (s.heap.push o) (o := { cls := .type "enumerate", data := .fields #[.none, .bool false, .ref s.heap.objs.size, rawInt 0, .none, .none] }) rfl
    rw [hz] at this; exact this
  refine ⟨⟨_, he, rfl⟩, h _ he (Heap.get?_push_of_some _ (Heap.get?_push_size _ B.free)) (by rw [Heap.size_push, hz]) fun b o x => Heap.get?_push_of_some _ (Heap.get?_push_of_some _ x)⟩
theorem bm_enum_end {e it t : Addr} {n : Nat} {items : Array Value} {i : Int} {old : Value} {Q : Option Value → Shared → Prop} (hh : A.handled = none)
    (he : IsEnum s.heap e it i old) (hit : s.heap.IsTupleIter it t n) (ht : s.heap.IsTuple t items) (hx : items[n]? = none)
    (hQ : ∀ h', Heap.ExtBut it s.heap h' → Q none { s with heap := h' }) : wpAny (model prog w) A (pyNext (.ref e)) Q E s := by
  have hT : s.TypeIs (.ref e) "enumerate" := ⟨_, he, rfl⟩
  unfold pyNext
  refine wpAny_bind (wpAny_attempt (wpAny_callSpecial?_slot (name := Str.ofString "__next__") hT F.slot_enumerate_next
    (wpAny_call_entry F.slot_enumerate_next hT F.entry_enumerate_next ?_ (F.args_enumerate_next_1 _))))
  show wpAny _ _ (field (.ref e) 2 >>= _) _ _ _
  refine wpAny_bind (wpAny_field he rfl (x := .ref it) rfl ?_)
  refine wpAny_bind (wpAny_nextOf_tuple_end (show A.in1.handled = none from hh) hit ht hx fun h' x he' hx' => ?_)
  obtain ⟨o, ho, hc⟩ := hx'
  refine wpAny_bind (wpAny_isInstance (T := "StopIteration") (b := true) ⟨o, ho, hc⟩ isSubtype_stop ?_)
  exact wpAny_pure (hQ _ he')
end
end PySem
namespace Bm
open PySem PySem.Spec PyProof.Rows L2

/-! ### in-place operators -/
theorem pip_of {X : Cx} {op : Operator} {r : R2} (h : OpR X (inplaceOp op) r) : PIp X op r := fun pins s σ H x y v u Q I r1 r2 q => h pins s σ H x y v u Q I r1 r2 q
theorem inop_of {X : Cx} {op : Operator} {r : R2} (h : OpR X (inplaceOp op) r) : InOp X op r := fun pins s σ H x y v u Q I r1 r2 q => h pins s σ H x y v u Q I r1 r2 q

/-! ### a list or a tuple -/
def SqA (K : PySem.W.Frag) (H : Hp) (a : Addr) (xs : List V) : Prop := SqL K H a xs ∨ SqT K H a xs
/-- enumerate of a tuple -/
def IteT (K : PySem.W.Frag) (a : Addr) : It :=
  ⟨fun i H => ∃ (xs : List V) (x : V), SqT K H a xs ∧ xs[i]? = some x, fun i H v H' => ∃ T x, v = .ref T ∧ H T = none ∧ H' = upd H T (.tup [.int (i : Nat), x]) ∧ ∀ xs, SqT K H a xs → xs[i]? = some x, fun i H => ∃ xs : List V, SqT K H a xs ∧ xs.length ≤ i⟩
theorem turn_enumT {P : Program} {w : World} {K : PySem.W.Frag} {elts : List Expr} {kk : Nat} {tpos : Pos} (a e it : Addr) :
    Turn P w K (.Tuple elts kk tpos) (IteT K a) [e, it] e (fun i h => (∃ old, IsEnum h e it ((i : Nat) : Int) old) ∧ h.IsTupleIter it a i ∧ e ≠ it) where
  mem := by simp
  obj := fun i h st b hb => by
    obtain ⟨⟨old, he⟩, ⟨o, ho, hc, hd⟩, _⟩ := st
    have e' : b = e ∨ b = it := by simpa using hb
    rcases e' with z | z
    · rw [z]; exact ⟨_, he, fun v q => nomatch q⟩
    · rw [z]; exact ⟨o, ho, fun v q => by rw [hd] at q; cases q⟩
  keep := fun i h h' st k => let ⟨⟨old, he⟩, hi, hne⟩ := st; ⟨⟨old, k e (by simp) _ he⟩, hi.at fun o q => k it (by simp) o q, hne⟩
  item := by
    intro X hP hw hK hc i pins s σ H E I hf st hg
    subst hP hw hK
    obtain ⟨⟨old, he⟩, hit, hne⟩ := st
    obtain ⟨xs, x, hq, hx⟩ := hg
    obtain ⟨its, rv, p, hz⟩ := I.tuple hq
    obtain ⟨u, hu, ru⟩ := rv.get hx
    have hel : e < s.heap.objs.size := Heap.lt_size he
    have hil : it < s.heap.objs.size := by obtain ⟨_, q, _⟩ := hit; exact Heap.lt_size q
    have hT : s.heap.IsTuple a its.toArray := p
    have hai : a ≠ it := fun z => by
      obtain ⟨o1, q1, c1, d1⟩ := hit
      obtain ⟨o2, q2, c2, _⟩ := hT
      rw [z, q1] at q2
      cases q2
      rw [c1] at c2
      exact absurd (Value.type.inj c2) (by decide)
    have hae : e ≠ a := fun z => by
      obtain ⟨o2, q2, c2, _⟩ := hT
      have he' : s.heap.get? e = some _ := he
      rw [z, q2] at he'
      cases he'
      exact absurd (Value.type.inj c2) (by decide)
    have hin : i < its.toArray.size := by
      have z := (List.getElem?_eq_some_iff.mp hu).1
      simpa using z
    refine wpAny_pyNext_enum_itemD (Draws.tuple (prog := X.prog) (w := X.w) (A := X.A.in1) (show X.A.in1.handled = none from I.ok.hd hc) it a hai its.toArray) he ⟨hit, hT⟩ hin hne (by simp [hne, hae]) fun x' h' tk hx' ho hst hT' hsz hk => ?_
    have ex : x' = u := by
      have z : its.toArray[i]? = some u := by simpa using hu
      exact Option.some.inj (hx'.symm.trans z)
    subst ex
    refine ⟨_, rfl, wpAny_letOwnedTupleGo_enum (s := { s with heap := h', toks := tk + 1 }) ho fun h'' he' sb => ?_⟩
    have hT2 : h''.get? s.heap.objs.size = some { cls := .type "tuple", data := .seq #[.int i tk, x'] } := (sb.2 _ (Nat.ne_of_gt hel)).trans hT'
    have new : ObjOk X.prog X.w (upd H s.heap.objs.size (.tup [.int (i : Nat), x])) h'' s.heap.objs.size (.tup [.int (i : Nat), x]) :=
      ⟨by show 2 ≤ sizeLine; decide, [.int i tk, x'], .cons ⟨_, rfl⟩ (.cons ru .nil), ⟨_, hT2, rfl, _, rfl⟩⟩
    have I1 : Inv X pins σ (upd H s.heap.objs.size (.tup [.int (i : Nat), x])) { s with heap := h'', toks := tk + 1 } :=
      I.turnedNew (ch := [e, it]) (fun b ob hb q => (sb.2 b (fun z => hb (by simp [z]))).trans (hk b ob (fun z => hb (by simp [z])) (fun z => hb (by simp [z])) q)) hf (Nat.le_refl _) new
    refine ⟨.ref s.heap.objs.size, _, I1, rfl, ⟨_, x, rfl, I.hok.fresh (Nat.le_refl _), rfl, fun ys hy => by rw [I.tuple_inj hy hq]; exact hx⟩, ⟨⟨x', ?_⟩, hst.1.at fun o q => (sb.2 it (Ne.symm hne)).trans q, hne⟩, fun b hb => ?_⟩
    · have e1 : ((i + 1 : Nat) : Int) = (i : Int) + 1 := by omega
      rw [e1]; exact he'
    · have hb' : b < s.heap.objs.size := by
        have e' : b = e ∨ b = it := by simpa using hb
        rcases e' with z | z
        · rw [z]; exact hel
        · rw [z]; exact hil
      rw [upd_ne (Nat.ne_of_lt hb')]
      exact (hf b hb).1
  done := by
    intro X hP hw hK hc i pins s σ H E I hf st hg
    subst hP hw hK
    obtain ⟨⟨old, he⟩, hit, hne⟩ := st
    obtain ⟨xs, hq, hx⟩ := hg
    obtain ⟨its, rv, p, hz⟩ := I.tuple hq
    obtain ⟨f0, f1, f2, f3, f4, f5⟩ := hf it (by simp)
    have hl := rv.length
    have hT : s.heap.IsTuple a its.toArray := p
    exact bm_enum_end (I.ok.hd hc) he hit hT (by simp; omega) fun h' eb => ⟨rfl, I.turned (t' := s.toks) (fun b o hb q => eb b o hb q) f0 f1 f3 f4 f5⟩
  self := fun A i s Q E st h => let ⟨⟨_, he⟩, _⟩ := st; wpAny_pyIter_enum he h
/-- for i, x in enumerate(xs), xs a list or a tuple -/
def iEnumA (K : PySem.W.Frag) (ta : TA) : TI := fun σ H R => ta σ H fun vs H1 => ∃ a xs, vs = [.ref a] ∧ ((SqL K H1 a xs ∧ R (Ite K a) H1) ∨ (SqT K H1 a xs ∧ R (IteT K a) H1))
theorem pi_enumA {X : Cx} {e : Expr} {ta : TA} {p pos tpos : Pos} {elts : List Expr} {kk : Nat} (hg : Gl X "enumerate") (hm : X.mg "enumerate" = none) (ha : PA X [e] ta) (hs : starEach [e] X.env = [(false, eval e X.env)] := by rfl) :
    PI X (.Tuple elts kk tpos) (.Call (.Name "enumerate" p) [e] [] pos) (iEnumA X.K ta) := by
  refine ⟨fun pins s σ H R I h => ?_⟩
  refine Call_ (ld_blt I hg hm boot_enumerate (PyProof.Rows.callWith_type1 (thn (ha.run pos pins s σ H _ I h) fun us s1 ⟨vs, H1, I1, r1, q1⟩ => ?_) hs rfl))
  obtain ⟨a, xs, ex, q1⟩ := q1
  subst ex
  cases r1 with
  | cons r rr =>
    cases rr
    cases r
    have fp : ∀ b ∈ [s1.heap.objs.size + 1, s1.heap.objs.size], FpOk X pins H1 b := fun b hb => by
      have e' : b = s1.heap.objs.size + 1 ∨ b = s1.heap.objs.size := by simpa using hb
      have hle : s1.heap.objs.size ≤ b := by
        rcases e' with z | z
        · rw [z]; exact Nat.le_add_right _ _
        · rw [z]; exact Nat.le_refl _
      exact I1.fpOk hle (I1.hok.fresh hle)
    rcases q1 with ⟨hq, q⟩ | ⟨hq, q⟩
    · obtain ⟨its, rv, p', hz⟩ := I1.list hq
      refine call_enumerate_list p'.isList fun h' he hit hsz hk => wpAny_pyIter_enum he ?_
      have I2 : Inv X pins σ H1 { s1 with heap := h' } := I1.kept (t' := s1.toks) hk
      exact ⟨s1.heap.objs.size + 1, [s1.heap.objs.size + 1, s1.heap.objs.size], _, _, H1, rfl, I2, turn_enum a (s1.heap.objs.size + 1) s1.heap.objs.size, ⟨⟨.none, he⟩, hit, Nat.succ_ne_self _⟩, fp, q⟩
    · obtain ⟨its, rv, p', hz⟩ := I1.tuple hq
      refine bm_enum_begins (begins_tuple a its.toArray) (show s1.heap.IsTuple a its.toArray from p') fun h' he hit hsz hk => wpAny_pyIter_enum he ?_
      have I2 : Inv X pins σ H1 { s1 with heap := h' } := I1.kept (t' := s1.toks) hk
      exact ⟨s1.heap.objs.size + 1, [s1.heap.objs.size + 1, s1.heap.objs.size], _, _, H1, rfl, I2, turn_enumT a (s1.heap.objs.size + 1) s1.heap.objs.size, ⟨⟨.none, he⟩, ⟨_, hit, rfl, rfl⟩, Nat.succ_ne_self _⟩, fp, q⟩
/-- for x in xs, xs a list or a tuple -/
def iSeq (K : PySem.W.Frag) (tl : TE) : TI := fun σ H R => tl σ H fun x H1 => ∃ a, x = .ref a ∧ (((∃ xs, SqL K H1 a xs) ∧ R (Itl K a) H1) ∨ ((∃ xs, SqT K H1 a xs) ∧ R (Itt K a) H1))
theorem pi_seq {X : Cx} {tg : Expr} {l : Expr} {tl : TE} (hl : PE X l tl) : PI X tg l (iSeq X.K tl) := by
  refine ⟨fun pins s σ H R I h => ?_⟩
  refine thn (hl.run pins s σ H _ I h) fun v s1 ⟨x, H1, I1, r1, q1⟩ => ?_
  obtain ⟨a, e, q1⟩ := q1
  subst e
  cases r1
  have fp : ∀ b ∈ [s1.heap.objs.size], FpOk X pins H1 b := fun b hb => by
    have e : b = s1.heap.objs.size := by simpa using hb
    subst e
    exact I1.fpOk (Nat.le_refl _) (I1.hok.fresh (Nat.le_refl _))
  rcases q1 with ⟨⟨xs, hq⟩, q⟩ | ⟨⟨xs, hq⟩, q⟩
  · obtain ⟨its, rv, p, hz⟩ := I1.list hq
    refine wpAny_pyIter_list p.isList ?_
    exact ⟨s1.heap.objs.size, [s1.heap.objs.size], _, _, H1, rfl, I1.kept (t' := s1.toks) fun b o e => Heap.get?_push_of_some _ e, turn_list a _, ⟨_, Heap.get?_push_size _ rfl, rfl, rfl⟩, fp, q⟩
  · obtain ⟨its, rv, p, hz⟩ := I1.tuple hq
    refine wpAny_pyIter_tuple (show s1.heap.IsTuple a its.toArray from p) ?_
    exact ⟨s1.heap.objs.size, [s1.heap.objs.size], _, _, H1, rfl, I1.kept (t' := s1.toks) fun b o e => Heap.get?_push_of_some _ e, turn_tuple a _, ⟨_, Heap.get?_push_size _ rfl, rfl, rfl⟩, fp, q⟩
end Bm


set_option Elab.async false
set_option linter.all false
set_option maxRecDepth 100000
set_option maxHeartbeats 4000000
namespace Bm
open PySem PySem.Spec PyProof.Rows L2
/-! ### operators on naturals -/
def rN (g : Nat → Nat → Nat) : R2 := fun x y H Q => ∃ n m : Nat, x = .int (n : Int) ∧ y = .int (m : Int) ∧ Q (.int ((g n m : Nat) : Int)) H
def rNc (C : Nat → Nat → Prop) (g : Nat → Nat → Nat) : R2 := fun x y H Q => ∃ n m : Nat, x = .int (n : Int) ∧ y = .int (m : Int) ∧ C n m ∧ Q (.int ((g n m : Nat) : Int)) H
section
variable {X : Cx}
theorem opN_of {f : Value → Value → Sem Value} {g : Int → Int → Int} {h : Nat → Nat → Nat} (o : OpR X f (rI0 fun i j => .int (g i j))) (e : ∀ n m : Nat, g n m = ((h n m : Nat) : Int)) : OpR X f (rN h) := by
  intro pins s σ H x y v u Q I r1 r2 q
  obtain ⟨n, m, rfl, rfl, q⟩ := q
  refine o pins s σ H _ _ v u Q I r1 r2 ⟨n, m, rfl, rfl, ?_⟩
  show Q (.int (g n m)) H
  rw [e]
  exact q
theorem opNc_of {f : Value → Value → Sem Value} {C : Int → Int → Prop} {C' : Nat → Nat → Prop} {g : Int → Int → Int} {h : Nat → Nat → Nat} (o : OpR X f (rI C fun i j => .int (g i j))) (hc : ∀ n m : Nat, C' n m → C n m) (e : ∀ n m : Nat, C' n m → g n m = ((h n m : Nat) : Int)) : OpR X f (rNc C' h) := by
  intro pins s σ H x y v u Q I r1 r2 q
  obtain ⟨n, m, rfl, rfl, c, q⟩ := q
  refine o pins s σ H _ _ v u Q I r1 r2 ⟨n, m, rfl, rfl, hc n m c, ?_⟩
  show Q (.int (g n m)) H
  rw [e n m c]
  exact q
theorem xor_nn (n m : Nat) : Builtin.bitXor (n : Int) (m : Int) = ((n ^^^ m : Nat) : Int) := by
  rw [Bits.bitXor_pp (by omega) (by omega), Int.toNat_natCast, Int.toNat_natCast]
theorem or_nn (n m : Nat) : Builtin.bitOr (n : Int) (m : Int) = ((n ||| m : Nat) : Int) := by
  rw [Bits.bitOr_pp (by omega) (by omega), Int.toNat_natCast, Int.toNat_natCast]
theorem and_nn (n m : Nat) : Builtin.bitAnd (n : Int) (m : Int) = ((n &&& m : Nat) : Int) := by
  rw [bitAnd_pp (by omega) (by omega), Int.toNat_natCast, Int.toNat_natCast]
theorem shl_nn (n m : Nat) : (n : Int) * 2 ^ (m : Int).toNat = ((n * 2 ^ m : Nat) : Int) := by
  rw [Int.toNat_natCast]
  norm_cast
theorem shr_nn (n m : Nat) : (n : Int) / 2 ^ (m : Int).toNat = ((n / 2 ^ m : Nat) : Int) := by
  rw [Int.toNat_natCast]
  norm_cast
theorem op_xorN : OpR X (binaryOp .BitXor) (rN fun n m => n ^^^ m) := opN_of op_xor xor_nn
theorem op_orN : OpR X (binaryOp .BitOr) (rN fun n m => n ||| m) := opN_of op_or or_nn
theorem op_andN : OpR X (binaryOp .BitAnd) (rN fun n m => n &&& m) := opN_of op_and and_nn
theorem iop_xorN : OpR X (inplaceOp .BitXor) (rN fun n m => n ^^^ m) := opN_of iop_xor xor_nn
theorem iop_orN : OpR X (inplaceOp .BitOr) (rN fun n m => n ||| m) := opN_of iop_or or_nn
theorem iop_andN : OpR X (inplaceOp .BitAnd) (rN fun n m => n &&& m) := opN_of iop_and and_nn
def CShN (n m : Nat) : Prop := n < 2 ^ 64 ∧ m ≤ 1000000
theorem op_shlNN : OpR X (binaryOp .LShift) (rNc CShN fun n m => n * 2 ^ m) := opNc_of op_shl (fun n m c => ⟨by omega, by have := c.2; omega, by have := c.1; omega⟩) (fun n m _ => shl_nn n m)
theorem iop_shlNN : OpR X (inplaceOp .LShift) (rNc CShN fun n m => n * 2 ^ m) := opNc_of iop_shl (fun n m c => ⟨by omega, by have := c.2; omega, by have := c.1; omega⟩) (fun n m _ => shl_nn n m)
theorem op_shrNN : OpR X (binaryOp .RShift) (rNc (fun _ _ => True) fun n m => n / 2 ^ m) := opNc_of op_shr (fun n m _ => by omega) (fun n m _ => shr_nn n m)
theorem iop_shrNN : OpR X (inplaceOp .RShift) (rNc (fun _ _ => True) fun n m => n / 2 ^ m) := opNc_of iop_shr (fun n m _ => by omega) (fun n m _ => shr_nn n m)
theorem op_addNN : OpR X (binaryOp .Add) (rN fun n m => n + m) := opN_of op_add fun n m => by omega
end
/-! ### o[i] op= e of a list -/
theorem get_list {X : Cx} : PGet X (rIxL X.K) := by
  intro pins s σ H x y v u Q I rx ry h
  obtain ⟨p, xs, i, z, rfl, rfl, hq, he, q⟩ := h
  cases rx
  obtain ⟨t, rfl⟩ := ry
  obtain ⟨its, r, pl, hz⟩ := I.list hq
  obtain ⟨j, h1, h2, h3, h4, h5⟩ := atI_get he
  obtain ⟨w, ew, rw'⟩ := r.get h2
  have hl := r.length
  have hn := line63
  have fin : EP X pins σ Q w s := ⟨z, H, I, rw', q⟩
  by_cases h0 : 0 ≤ i
  · have hj : i.toNat = j := by
      rw [seqIndex_of h0 h5] at h1
      exact Option.some.inj h1
    exact wpAny_getItem_list pl.isList h0 (by omega) (by rw [hj]; simpa using ew) fin
  · have hj : (i + (its.toArray.size : Int)).toNat = j := by
      rw [seqIndex_neg (by omega) h4] at h1
      rw [List.size_toArray, ← hl]
      exact Option.some.inj h1
    exact wpAny_getItem_list_neg pl.isList (by omega) (by rw [List.size_toArray] <;> omega) (by omega) (by rw [hj]; simpa using ew) fin
/-! ### walks over a list or a tuple -/
section
variable {K : PySem.W.Frag} {H H' : Hp} {a : Addr} {xs : List V}
theorem rd_at {u : HO} (k : ∀ o, H a = some o → H' a = some o) (h : Rd H a u) : Rd H' a u := by
  rcases h with h | ⟨o, h⟩
  · exact .inl (k _ h)
  · exact .inr ⟨o, k _ h⟩
theorem sqL_at (k : ∀ o, H a = some o → H' a = some o) (h : SqL K H a xs) : SqL K H' a xs := by
  rcases h with h | h
  · exact .inl (rd_at k h)
  · exact .inr h
theorem sqT_at (k : ∀ o, H a = some o → H' a = some o) (h : SqT K H a xs) : SqT K H' a xs := by
  rcases h with h | h
  · exact .inl (rd_at k h)
  · exact .inr h
theorem SqA.at_ (h : SqA K H a xs) (k : ∀ o, H a = some o → H' a = some o) : SqA K H' a xs := h.imp (sqL_at k) (sqT_at k)
theorem SqA.same (h : SqA K H a xs) (e : Same H H') : SqA K H' a xs := h.at_ fun o q => e a o q
abbrev ForP (J : It) (g : TG) (tb : TS) (D : Ends) (σ : L2.St) (H1 : Hp) : Prop := ∃ W : Nat → Nat → L2.St → Hp → Prop, (∃ m, W 0 m σ H1) ∧ ∀ i m σ H, W i m σ H →
  (J.stop i H ∧ D.nx σ H) ∨ (J.go i H ∧ ∃ N : L2.St → Hp → Prop, (∀ σ' H', N σ' H' → ∃ m', m' < m ∧ W (i + 1) m' σ' H') ∧ ∀ x H', J.yld i H x H' → g x σ H' fun σ2 H2 => tb { D with nx := N, ct := N, bk := D.nx } σ2 H2)
/-- a for over a list or tuple that stands still -/
theorem for_seq {g : TG} {tb : TS} {D : Ends} {σ : L2.St} (hS : SqA K H a xs) (Pv : Nat → L2.St → Hp → Prop) (h0 : Pv 0 σ H) (hE : ∀ i σ' H', i ≤ xs.length → Pv i σ' H' → ∀ o, H a = some o → H' a = some o)
    (hs : ∀ i x σ' H', xs[i]? = some x → Pv i σ' H' → g x σ' H' fun σ2 H2 => tb { D with nx := Pv (i + 1), ct := Pv (i + 1), bk := D.nx } σ2 H2) (hd : ∀ σ' H', Pv xs.length σ' H' → D.nx σ' H') :
    ((∃ xs, SqL K H a xs) ∧ ForP (Itl K a) g tb D σ H) ∨ ((∃ xs, SqT K H a xs) ∧ ForP (Itt K a) g tb D σ H) := by
  rcases hS with hS | hS
  · exact .inl ⟨⟨_, hS⟩, for_it (walk_list (xs := xs)) Pv h0 (fun i σ' H' hi p => sqL_at (hE i σ' H' hi p) hS) (fun i x σ' H1 H2 hi p y => by obtain ⟨rfl, y⟩ := y; exact hs i x σ' H2 y p) hd⟩
  · exact .inr ⟨⟨_, hS⟩, for_it (walk_tup (xs := xs)) Pv h0 (fun i σ' H' hi p => sqT_at (hE i σ' H' hi p) hS) (fun i x σ' H1 H2 hi p y => by obtain ⟨rfl, y⟩ := y; exact hs i x σ' H2 y p) hd⟩
theorem walk_enumT : Walk (IteT K a) xs.length (fun H => SqT K H a xs) (YPair (fun i => some (.int (i : Nat))) (fun i => xs[i]?)) := by
  refine ⟨fun i _ hi q => ⟨xs, xs[i], q, by simp [hi]⟩, fun _ q => ⟨xs, q, Nat.le_refl _⟩, fun i H v H' _ q y => ?_⟩
  obtain ⟨T, x, h1, h2, h3, h4⟩ := y
  exact ⟨T, .int (i : Nat), x, h1, h2, h3, rfl, h4 xs q⟩
/-- for i, x in enumerate(..): two names -/
theorem for_enum {tb : TS} {D : Ends} {σ : L2.St} {g : TG} (hS : SqA K H a xs) (Pv : Nat → L2.St → Hp → Prop) (h0 : Pv 0 σ H) (hE : ∀ i σ' H', i ≤ xs.length → Pv i σ' H' → ∀ o, H a = some o → H' a = some o)
    (hs : ∀ (i : Nat) x T σ' H', xs[i]? = some x → Pv i σ' H' → H' T = none → g (.ref T) σ' (upd H' T (.tup [.int (i : Nat), x])) fun σ2 H2 => tb { D with nx := Pv (i + 1), ct := Pv (i + 1), bk := D.nx } σ2 H2) (hd : ∀ σ' H', Pv xs.length σ' H' → D.nx σ' H') :
    (SqL K H a xs ∧ ForP (Ite K a) g tb D σ H) ∨ (SqT K H a xs ∧ ForP (IteT K a) g tb D σ H) := by
  rcases hS with hS | hS
  · refine .inl ⟨hS, for_it (walk_enum (xs := xs)) Pv h0 (fun i σ' H' hi p => sqL_at (hE i σ' H' hi p) hS) (fun i v σ' H1 H2 hi p y => ?_) hd⟩
    obtain ⟨T, x, z, rfl, hT, rfl, e1, e2⟩ := y
    first
      | (cases e1; exact hs i z T σ' H1 e2 p hT)
  · refine .inr ⟨hS, for_it (walk_enumT (xs := xs)) Pv h0 (fun i σ' H' hi p => sqT_at (hE i σ' H' hi p) hS) (fun i v σ' H1 H2 hi p y => ?_) hd⟩
    obtain ⟨T, x, z, rfl, hT, rfl, e1, e2⟩ := y
    first
      | (cases e1; exact hs i z T σ' H1 e2 p hT)
abbrev LcP (J : It) (g : TG) (tt : TT) (te : TE) (vs : List Nat) (σ : L2.St) (H1 : Hp) (D : Addr) (Qd : Hp → Prop) : Prop := ∃ W : Nat → Nat → Hp → Prop, (∃ m, W 0 m (upd H1 D (.lst []))) ∧ ∀ i m H, W i m H →
  (J.stop i H ∧ Qd H) ∨ (J.go i H ∧ ∃ Nx : Hp → Prop, (∀ H', Nx H' → ∃ m', m' < m ∧ W (i + 1) m' H') ∧ ∀ x H', J.yld i H x H' → g x (wipe σ vs) H' fun σ2 H2 => wipe σ2 vs = wipe σ vs ∧ tt σ2 H2 fun b H3 =>
    if b = true then te σ2 H3 fun y H4 => ∃ acc, H4 D = some (.lst acc) ∧ acc.length < sizeLine ∧ Nx (upd H4 D (.lst (acc ++ [y]))) else Nx H3)
theorem lc_seq {g : TG} {tt : TT} {te : TE} {vs : List Nat} {σ : L2.St} {Q : Addr → Hp → Prop} (hS : SqA K H a xs) (Pv : Addr → Nat → Hp → Prop) (h0 : ∀ D, H D = none → Pv D 0 (upd H D (.lst []))) (hE : ∀ D i H', H D = none → i ≤ xs.length → Pv D i H' → ∀ o, H a = some o → H' a = some o)
    (hs : ∀ D i x H', H D = none → xs[i]? = some x → Pv D i H' → g x (wipe σ vs) H' fun σ2 H2 => wipe σ2 vs = wipe σ vs ∧ tt σ2 H2 fun b H3 =>
      if b = true then te σ2 H3 fun y H4 => ∃ acc, H4 D = some (.lst acc) ∧ acc.length < sizeLine ∧ Pv D (i + 1) (upd H4 D (.lst (acc ++ [y]))) else Pv D (i + 1) H3) (hd : ∀ D H', H D = none → Pv D xs.length H' → Q D H') :
    ((∃ xs, SqL K H a xs) ∧ ∀ D, H D = none → LcP (Itl K a) g tt te vs σ H D (Q D)) ∨ ((∃ xs, SqT K H a xs) ∧ ∀ D, H D = none → LcP (Itt K a) g tt te vs σ H D (Q D)) := by
  rcases hS with hS | hS
  · exact .inl ⟨⟨_, hS⟩, fun D hD => lc_it (walk_list (xs := xs)) (Pv D) (h0 D hD) (fun i H' hi p => sqL_at (hE D i H' hD hi p) hS) (fun i x H1 H2 hi p y => by obtain ⟨rfl, y⟩ := y; exact hs D i x H2 hD y p) (fun H' p => hd D H' hD p)⟩
  · exact .inr ⟨⟨_, hS⟩, fun D hD => lc_it (walk_tup (xs := xs)) (Pv D) (h0 D hD) (fun i H' hi p => sqT_at (hE D i H' hD hi p) hS) (fun i x H1 H2 hi p y => by obtain ⟨rfl, y⟩ := y; exact hs D i x H2 hD y p) (fun H' p => hd D H' hD p)⟩
theorem lc_enum {g : TG} {tt : TT} {te : TE} {vs : List Nat} {σ : L2.St} {Q : Addr → Hp → Prop} (hS : SqA K H a xs) (Pv : Addr → Nat → Hp → Prop) (h0 : ∀ D, H D = none → Pv D 0 (upd H D (.lst []))) (hE : ∀ D i H', H D = none → i ≤ xs.length → Pv D i H' → ∀ o, H a = some o → H' a = some o)
    (hs : ∀ D (i : Nat) x T H', H D = none → xs[i]? = some x → Pv D i H' → H' T = none → g (.ref T) (wipe σ vs) (upd H' T (.tup [.int (i : Nat), x])) fun σ2 H2 => wipe σ2 vs = wipe σ vs ∧ tt σ2 H2 fun b H3 =>
      if b = true then te σ2 H3 fun y H4 => ∃ acc, H4 D = some (.lst acc) ∧ acc.length < sizeLine ∧ Pv D (i + 1) (upd H4 D (.lst (acc ++ [y]))) else Pv D (i + 1) H3) (hd : ∀ D H', H D = none → Pv D xs.length H' → Q D H') :
    (SqL K H a xs ∧ ∀ D, H D = none → LcP (Ite K a) g tt te vs σ H D (Q D)) ∨ (SqT K H a xs ∧ ∀ D, H D = none → LcP (IteT K a) g tt te vs σ H D (Q D)) := by
  rcases hS with hS | hS
  · refine .inl ⟨hS, fun D hD => lc_it (walk_enum (xs := xs)) (Pv D) (h0 D hD) (fun i H' hi p => sqL_at (hE D i H' hD hi p) hS) (fun i v H1 H2 hi p y => ?_) (fun H' p => hd D H' hD p)⟩
    obtain ⟨T, x, z, rfl, hT, rfl, e1, e2⟩ := y
    first
      | (cases e1; exact hs D i z T H1 hD e2 p hT)
  · refine .inr ⟨hS, fun D hD => lc_it (walk_enumT (xs := xs)) (Pv D) (h0 D hD) (fun i H' hi p => sqT_at (hE D i H' hD hi p) hS) (fun i v H1 H2 hi p y => ?_) (fun H' p => hd D H' hD p)⟩
    obtain ⟨T, x, z, rfl, hT, rfl, e1, e2⟩ := y
    first
      | (cases e1; exact hs D i z T H1 hD e2 p hT)
end
/-! ### kinds -/
def tyName : V → Option String
  | .non => some "NoneType"
  | .bl _ => some "bool"
  | .int _ => some "int"
  | .str _ => some "str"
  | _ => none
end Bm


set_option Elab.async false
set_option linter.all false
set_option maxRecDepth 100000
set_option maxHeartbeats 4000000
namespace Bm
open PySem PySem.Spec PyProof.Rows L2
theorem iof {mg : Str → Option Value} {x : Str} {i : Int} (h : ∃ t, mg x = some (.int i t)) : ∃ u, mg x = some u ∧ RelV (.int i) u := by
  obtain ⟨t, h⟩ := h
  exact ⟨_, h, t, rfl⟩
theorem sof {mg : Str → Option Value} {x z : Str} (h : ∃ t, mg x = some (.str z t)) : ∃ u, mg x = some u ∧ RelV (.str z) u := by
  obtain ⟨t, h⟩ := h
  exact ⟨_, h, t, rfl⟩
section
variable {P : Program} {w : World} {K : PySem.W.Frag} {mg : Str → Option Value} {base : Heap}
/-- from a def and its promise to what callers use -/
theorem Fn.of {CX : CXT} {k : Nat} {x qual : Str} {params : Arguments} {body : List Stmt} {scope : Scope} {dvs dv0 : List V} {f : Addr} {fd : FuncData} {ps : List Str} {sp : Sp} (F : FunD K x qual params body scope dv0 [] f fd) (g : mg x = some (.ref f)) (b : ∃ ds, Vals dvs ds ∧ L2.Binds K fd ps ds)
    (ok : FnOk P w K mg base CX k f fd ps sp) : Fn P w K mg base CX k x sp dvs := by
  obtain ⟨ds, h1, h2⟩ := b
  exact ⟨f, fd, ps, ds, g, F.kp, h2, h1, ok⟩
theorem bnd0 {x qual : Str} {params : Arguments} {body : List Stmt} {scope : Scope} {f : Addr} {fd : FuncData} {ps : List Str} (F : FunD K x qual params body scope [] [] f fd)
    (h : ∀ (kV doc pm : Value) (an : Option Addr) (cdv ct : Value) (us : List Value), us.length = ps.length → bindArgs (PySem.W.fnOf x qual params body scope .none kV doc pm an cdv ct) ⟨us, []⟩ = pure (ps.zip us)) : ∃ ds, Vals [] ds ∧ L2.Binds K fd ps ds :=
  ⟨[], .nil, F.bindsN h⟩
end
theorem iteD {p A B : Prop} [Decidable p] (h1 : p → A) (h2 : ¬ p → B) : if decide p = true then A else B := by
  by_cases h : p
  · rw [if_pos (decide_eq_true h)]
    exact h1 h
  · rw [if_neg (by rw [decide_eq_false h]; exact Bool.false_ne_true)]
    exact h2 h
theorem iteDT {p A B : Prop} [Decidable p] (h : p) (a : A) : if decide p = true then A else B := by
  rw [if_pos (decide_eq_true h)]
  exact a
theorem iteDF {p A B : Prop} [Decidable p] (h : ¬ p) (b : B) : if decide p = true then A else B := by
  rw [if_neg (by rw [decide_eq_false h]; exact Bool.false_ne_true)]
  exact b
theorem iteB {b : Bool} {A B : Prop} (h1 : b = true → A) (h2 : b = false → B) : if b = true then A else B := by
  cases b
  · exact iteF (h2 rfl)
  · exact iteT (h1 rfl)
theorem iteBT {b : Bool} {A B : Prop} (h : b = true) (a : A) : if b = true then A else B := by
  rw [if_pos h]
  exact a
theorem iteBF {b : Bool} {A B : Prop} (h : b = false) (a : B) : if b = true then A else B := by
  rw [h]
  exact iteF a
/-! ### what a thing's kind is -/
inductive Kd (K : PySem.W.Frag) (H : Hp) : V → String → Prop
  | non : Kd K H .non "NoneType"
  | bl (b : Bool) : Kd K H (.bl b) "bool"
  | int (i : Int) : Kd K H (.int i) "int"
  | str (x : Str) : Kd K H (.str x) "str"
  | lst {a : Addr} {xs : List V} (h : SqL K H a xs) : Kd K H (.ref a) "list"
  | tup {a : Addr} {xs : List V} (h : SqT K H a xs) : Kd K H (.ref a) "tuple"
end Bm
namespace Bm
open PySem PySem.Spec PyProof.Rows L2
section
variable {K : PySem.W.Frag} {H H' : Hp} {v : V} {n : String}
theorem ty_lst {a : Addr} {xs : List V} (h : SqL K H a xs) : TyX K H (.ref a) (.type "list") := by
  rcases h with (h | ⟨o, h⟩) | ⟨o, its, m, h, hc, _⟩
  · exact .base (.lst h)
  · exact .base (.frz h)
  · exact .kList h hc
theorem ty_tup {a : Addr} {xs : List V} (h : SqT K H a xs) : TyX K H (.ref a) (.type "tuple") := by
  rcases h with (h | ⟨o, h⟩) | ⟨o, its, m, h, hc, _⟩
  · exact .base (.tup h)
  · exact .fTuple h
  · exact .kTuple h hc
theorem Kd.ty (k : Kd K H v n) : TyX K H v (.type n) := by
  cases k with
  | non => exact .base .non
  | bl b => exact .base (.bl b)
  | int i => exact .base (.int i)
  | str x => exact .base (.str x)
  | lst h => exact ty_lst h
  | tup h => exact ty_tup h
theorem Kd.same (k : Kd K H v n) (e : Same H H') : Kd K H' v n := by
  cases k with
  | non => exact .non
  | bl b => exact .bl b
  | int i => exact .int i
  | str x => exact .str x
  | lst h => exact .lst (e.seq h)
  | tup h => exact .tup (sqT_at (fun o q => e _ o q) h)
def isiB (n c : String) : Bool := decide (n = c) || (decide (c = "int") && decide (n = "bool"))
def kdNames : List String := ["NoneType", "bool", "int", "str", "list", "tuple"]
theorem Kd.mem (k : Kd K H v n) : n ∈ kdNames := by cases k <;> decide
theorem kit_all : ∀ n ∈ kdNames, ∀ c ∈ ["int", "bool", "str", "list", "tuple"], kitB n c = some (isiB n c) := by decide +kernel
theorem Kd.kit (k : Kd K H v n) {c : String} (hc : c ∈ ["int", "bool", "str", "list", "tuple"]) : PySem.W.kitOne K (.type n) (.type c) = some (isiB n c) := kit_ty (kit_all n k.mem c hc)
theorem isi_ok {c : String} {Q : VK} (k : Kd K H v n) (hc : c ∈ ["int", "bool", "str", "list", "tuple"]) (q : Q (.bl (isiB n c)) H) : rIsi K [v, .ty c] H Q :=
  ⟨v, .ty c, .type n, .type c, isiB n c, rfl, .ty c, k.ty, kit_ty (kit_all n k.mem c hc), q⟩
theorem isiT_ok {tp : Addr} {cs : List String} {Q : VK} (k : Kd K H v n) (hc : ∀ c ∈ cs, c ∈ ["int", "bool", "str", "list", "tuple"]) (h : H tp = some (.tup (cs.map V.ty))) (q : Q (.bl (cs.any fun c => isiB n c)) H) : rIsiT K [v, .ref tp] H Q := by
  refine ⟨v, tp, cs.map V.ty, .type n, cs.map Value.type, _, rfl, h, ?_, k.ty, ?_, q⟩
  · clear h q hc
    induction cs with
    | nil => exact .nil
    | cons c cs ih => exact .cons (.ty c) ih
  · clear h q
    induction cs with
    | nil => rfl
    | cons c cs ih =>
      refine kitAny_cons (kit_ty (kit_all n k.mem c (hc c List.mem_cons_self))) (fun hb => ?_) (fun hb => ?_)
      · rw [ih (fun c h => hc c (List.mem_cons_of_mem _ h)), List.any_cons, hb, Bool.false_or]
      · rw [List.any_cons, hb, Bool.true_or]
/-! ### is_whole -/
def isWhole (v : V) (lo hi : Int) : Bool := match v with
  | .int i => decide (lo ≤ i) && decide (i ≤ hi)
  | _ => false
def spWhole (K : PySem.W.Frag) : Sp := fun vs H Q _ => ∃ (v : V) (n : String) (lo hi : Int), vs = [v, .int lo, .int hi] ∧ Kd K H v n ∧ Q (.bl (isWhole v lo hi)) H
/-! ### odd counts of bits -/
def oddB (n : Nat) : Bool := if h : n = 0 then false else (n % 2 == 1) ^^ oddB (n / 2)
decreasing_by omega
theorem oddB_zero : oddB 0 = false := by unfold oddB; rfl
theorem oddB_step {n : Nat} (h : n ≠ 0) : oddB n = ((n % 2 == 1) ^^ oddB (n / 2)) := by
  conv => lhs; unfold oddB
  rw [dif_neg h]
def spOdd : Sp := fun vs H Q _ => ∃ n : Nat, vs = [.int (n : Int)] ∧ Q (.bl (oddB n)) H
end
end Bm


set_option Elab.async false
set_option linter.all false
set_option maxRecDepth 100000
set_option maxHeartbeats 4000000
namespace Bm
open PySem PySem.Spec PyProof.Rows L2
section
variable {P : Program} {w : World} {K : PySem.W.Frag} {mg : Str → Option Value} {base : Heap}
theorem fn_nothing {CX : CXT} {f : Addr} {fd : FuncData} {ps : List Str} : FnOk P w K mg base CX 0 f fd ps (fun _ _ _ _ => False) := ⟨fun _ _ _ _ h => h.elim, fun _ _ _ _ _ _ _ _ _ _ _ _ _ h => h.elim⟩
theorem Fn.mono {CX : CXT} {j k : Nat} {x : Str} {sp : Sp} {dvs : List V} (c : Fn P w K mg base CX j x sp dvs) (h : j ≤ k) : Fn P w K mg base CX k x sp dvs := by
  obtain ⟨f, fd, ps, ds, h1, h2, h3, h4, F⟩ := c.ex
  exact ⟨f, fd, ps, ds, h1, h2, h3, h4, F.mono h⟩
end
def rLenSq (K : PySem.W.Frag) : List V → Hp → VK → Prop := fun xs H Q => ∃ p ys, xs = [.ref p] ∧ (SqL K H p ys ∨ SqT K H p ys) ∧ Q (.int ys.length) H
def rListOf (K : PySem.W.Frag) : List V → Hp → VK → Prop := fun xs H Q => ∃ p ys, xs = [.ref p] ∧ (SqL K H p ys ∨ SqT K H p ys) ∧ ∀ l, H l = none → Q (.ref l) (upd H l (.lst ys))
def rTupleOf (K : PySem.W.Frag) : List V → Hp → VK → Prop := fun xs H Q => ∃ p ys, xs = [.ref p] ∧ ((SqL K H p ys ∧ ∀ l, H l = none → Q (.ref l) (upd H l (.tup ys))) ∨ (SqT K H p ys ∧ Q (.ref p) H))
def kdOf : PyData → String
  | .none => "NoneType"
  | .bool _ => "bool"
  | .int _ => "int"
  | .str _ => "str"
  | .list _ => "list"
  | .tuple _ => "tuple"
  | .dict _ => "dict"
/-- data of one flat thing -/
def flatD : PyData → Bool
  | .none | .bool _ | .int _ | .str _ => true
  | _ => false
end Bm
namespace L2
open PySem PySem.Spec PyProof.Rows Bm
/-! ### heaps -/
theorem Same.new {H : Hp} {p : Addr} {o : HO} (h : H p = none) : Same H (upd H p o) := fun a u e => by
  rw [upd_ne (ne_of_none e h)]
  exact e
theorem Same.mut {H H' : Hp} {p : Addr} {o : HO} (e : Same H H') (h : H p = none) : Same H (upd H' p o) := fun a u ha => by
  rw [upd_ne (ne_of_none ha h)]
  exact e a u ha
theorem Same.seqT {K : PySem.W.Frag} {H H' : Hp} {a : Addr} {xs : List V} (e : Same H H') (h : SqT K H a xs) : SqT K H' a xs := sqT_at (fun o q => e a o q) h
/-! ### data -/
mutual
theorem Dp.same {K : PySem.W.Frag} {H H' : Hp} (e : Same H H') : ∀ {d : PyData} {v : V}, Dp K H v d → Dp K H' v d
  | .none, _, h => by cases h; exact .non
  | .bool b, _, h => by cases h; exact .bl b
  | .int i, _, h => by cases h; exact .int i
  | .str x, _, h => by cases h; exact .str x
  | .list ds, _, h => by cases h with | lst h1 h2 => exact .lst (e.seq h1) (DpAll.same e h2)
  | .tuple ds, _, h => by cases h with | tup h1 h2 => exact .tup (Same.seqT e h1) (DpAll.same e h2)
  | .dict kvs, _, h => by cases h
theorem DpAll.same {K : PySem.W.Frag} {H H' : Hp} (e : Same H H') : ∀ {ds : List PyData} {vs : List V}, DpAll K H vs ds → DpAll K H' vs ds
  | [], _, h => by cases h; exact .nil
  | d :: ds, _, h => by cases h with | cons h1 h2 => exact .cons (Dp.same e h1) (DpAll.same e h2)
end
section
variable {K : PySem.W.Frag} {H H' : Hp}
theorem DpAll.length : ∀ {ds : List PyData} {vs : List V}, DpAll K H vs ds → vs.length = ds.length
  | [], _, h => by cases h; rfl
  | d :: ds, _, h => by cases h with | cons h1 h2 => simp [DpAll.length h2]
theorem DpAll.get : ∀ {ds : List PyData} {vs : List V} {i : Nat} {d : PyData}, DpAll K H vs ds → ds[i]? = some d → ∃ v, vs[i]? = some v ∧ Dp K H v d
  | [], _, _, _, h, e => by simp at e
  | d :: ds, _, 0, d', h, e => by
    cases h with
    | cons h1 h2 =>
      have e : d = d' := by simpa using e
      exact ⟨_, rfl, e ▸ h1⟩
  | d :: ds, _, i + 1, d', h, e => by
    cases h with
    | cons h1 h2 =>
      obtain ⟨v, a, b⟩ := DpAll.get (i := i) h2 (by simpa using e)
      exact ⟨v, by simpa using a, b⟩
theorem DpAll.mem : ∀ {ds : List PyData} {vs : List V} {v : V}, DpAll K H vs ds → v ∈ vs → ∃ d ∈ ds, Dp K H v d
  | [], _, _, h, e => by cases h; cases e
  | d :: ds, _, v, h, e => by
    cases h with
    | cons h1 h2 =>
      rcases List.mem_cons.mp e with rfl | e
      · exact ⟨d, List.mem_cons_self, h1⟩
      · obtain ⟨d', a, b⟩ := DpAll.mem h2 e
        exact ⟨d', List.mem_cons_of_mem _ a, b⟩
theorem DpAll.append : ∀ {ds es : List PyData} {vs us : List V}, DpAll K H vs ds → DpAll K H us es → DpAll K H (vs ++ us) (ds ++ es)
  | [], _, _, _, h, k => by cases h; exact k
  | d :: ds, _, _, _, h, k => by cases h with | cons h1 h2 => exact .cons h1 (DpAll.append h2 k)
theorem DpAll.ints : ∀ ns : List Int, DpAll K H (ns.map V.int) (ns.map PyData.int)
  | [] => .nil
  | n :: ns => .cons (.int n) (DpAll.ints ns)
theorem Dp.kd {v : V} {d : PyData} (h : Dp K H v d) : Kd K H v (kdOf d) := by
  cases h with
  | non => exact .non
  | bl b => exact .bl b
  | int i => exact .int i
  | str x => exact .str x
  | lst h1 h2 => exact .lst h1
  | tup h1 h2 => exact .tup h1
theorem Dp.flat_eq {v u : V} {d : PyData} (f : flatD d = true) (h : Dp K H v d) (h' : Dp K H u d) : v = u ∧ scal v v = true := by
  cases h with
  | non => cases h'; exact ⟨rfl, rfl⟩
  | bl b => cases h'; exact ⟨rfl, rfl⟩
  | int i => cases h'; exact ⟨rfl, rfl⟩
  | str x => cases h'; exact ⟨rfl, rfl⟩
  | lst h1 h2 => cases f
  | tup h1 h2 => cases f
end
end L2
namespace Bm
open PySem PySem.Spec PyProof.Rows L2
/-- how deep: 0 for flat things -/
def depD : Nat → PyData → Bool
  | 0, d => flatD d
  | n + 1, .list ds => decide (ds.length ≤ 100000) && ds.all (depD n)
  | n + 1, .tuple ds => decide (ds.length ≤ 100000) && ds.all (depD n)
  | _ + 1, .dict _ => false
  | _ + 1, _ => true
theorem depD_flat : ∀ {n : Nat} {d : PyData}, flatD d = true → depD n d = true
  | 0, _, h => h
  | n + 1, .list ds, h => by cases h
  | n + 1, .tuple ds, h => by cases h
  | n + 1, .dict ds, h => by cases h
  | n + 1, .none, _ => rfl
  | n + 1, .bool _, _ => rfl
  | n + 1, .int _, _ => rfl
  | n + 1, .str _, _ => rfl
theorem depD_succ : ∀ {n : Nat} {d : PyData}, depD n d = true → depD (n + 1) d = true
  | 0, d, h => depD_flat h
  | n + 1, .list ds, h => by
    obtain ⟨h1, h2⟩ := Bool.and_eq_true_iff.mp (show (decide (ds.length ≤ 100000) && ds.all (depD n)) = true from h)
    exact Bool.and_eq_true_iff.mpr ⟨h1, List.all_eq_true.mpr fun x hx => depD_succ (List.all_eq_true.mp h2 x hx)⟩
  | n + 1, .tuple ds, h => by
    obtain ⟨h1, h2⟩ := Bool.and_eq_true_iff.mp (show (decide (ds.length ≤ 100000) && ds.all (depD n)) = true from h)
    exact Bool.and_eq_true_iff.mpr ⟨h1, List.all_eq_true.mpr fun x hx => depD_succ (List.all_eq_true.mp h2 x hx)⟩
  | n + 1, .dict ds, h => by cases h
  | n + 1, .none, _ => rfl
  | n + 1, .bool _, _ => rfl
  | n + 1, .int _, _ => rfl
  | n + 1, .str _, _ => rfl
/-! ### _law_same of two equal things -/
def spSame (K : PySem.W.Frag) (n : Nat) : Sp := fun vs H Q _ => ∃ (v u : V) (d : PyData), vs = [v, u] ∧ Dp K H v d ∧ Dp K H u d ∧ depD n d = true ∧ ∀ H', Same H H' → Q (.bl true) H'
/-! ### the draws -/
/-- the state of the draws at st -/
def StAt (K : PySem.W.Frag) (st sc : Addr) (ns : List Int) (H : Hp) : Prop :=
  ∃ p m c : Int, H st = some (.lst [.ref sc, .int p, .int m, .int c]) ∧ 0 ≤ p ∧ 0 ≤ m ∧ m < 2147483647 ∧ 0 ≤ c ∧ SqL K H sc (ns.map V.int)
theorem script_upd {K : PySem.W.Frag} {st sc : Addr} {ns : List Int} {H : Hp} {xs : List V} {o : HO} (hS : SqL K H sc (ns.map V.int)) (h : H st = some (.lst (.ref sc :: xs))) : SqL K (upd H st o) sc (ns.map V.int) := by
  have key : ∀ u, H sc = some u → (u = .lst (ns.map V.int) ∨ ∃ ob, u = .frz ob (.lst (ns.map V.int))) → sc ≠ st := fun u hu hc z => by
    rw [z, h] at hu
    have e := Option.some.inj hu
    subst e
    rcases hc with hc | ⟨ob, hc⟩
    · injection hc with hc
      cases ns with
      | nil => cases hc
      | cons n ns =>
        rw [List.map_cons] at hc
        injection hc with h1 _
        cases h1
    · cases hc
  rcases hS with (h1 | ⟨ob, h1⟩) | h1
  · exact .inl (.inl (by rw [upd_ne (key _ h1 (.inl rfl))]; exact h1))
  · exact .inl (.inr ⟨ob, by rw [upd_ne (key _ h1 (.inr ⟨ob, rfl⟩))]; exact h1⟩)
  · exact .inr h1
/-- all is kept but the state of the draws, which is again one -/
structure Kept (K : PySem.W.Frag) (st sc : Addr) (ns : List Int) (H H' : Hp) : Prop where
  keep : ∀ a o, a ≠ st → H a = some o → H' a = some o
  st : StAt K st sc ns H'
def spDrawn (K : PySem.W.Frag) : Sp := fun vs H Q _ => ∃ (st sc : Addr) (ns : List Int) (m : Int), vs = [.ref st, .int m] ∧ StAt K st sc ns H ∧ 0 < m ∧ m < 1073741824 ∧ ∀ r H', 0 ≤ r → r < m → Kept K st sc ns H H' → Q (.int r) H'
def spStart (K : PySem.W.Frag) : Sp := fun vs H Q _ => ∃ (sc : Addr) (ns : List Int), vs = [.ref sc] ∧ SqL K H sc (ns.map V.int) ∧ ns.length ≤ 1000 ∧ ∀ st H', H st = none → Same H H' → StAt K st sc ns H' → Q (.ref st) H'
end Bm
namespace Bm
open PySem PySem.Spec PyProof.Rows L2
theorem Kd.any2 {K : PySem.W.Frag} {H : Hp} {v : V} {n c1 c2 : String} (k : Kd K H v n) (h1 : c1 ∈ ["int", "bool", "str", "list", "tuple"]) (h2 : c2 ∈ ["int", "bool", "str", "list", "tuple"]) : PySem.W.kitAny K (.type n) [.type c1, .type c2] = some (isiB n c1 || isiB n c2) := by
  refine kitAny_cons (k.kit h1) (fun h => ?_) (fun h => ?_)
  · rw [h, Bool.false_or]
    refine kitAny_cons (k.kit h2) (fun h => ?_) (fun h => h)
    rw [h]
    exact kitAny_nil
  · rw [h, Bool.true_or]
end Bm
namespace Bm
open PySem PySem.Spec PyProof.Rows L2
def seqOf : PyData → Option (List PyData)
  | .list ds => some ds
  | .tuple ds => some ds
  | _ => none
theorem dp_seq {K : PySem.W.Frag} {H : Hp} {v : V} {d : PyData} (h : Dp K H v d) : (∃ ds, seqOf d = some ds ∧ (isiB (kdOf d) "tuple" || isiB (kdOf d) "list") = true ∧ ∃ a xs, v = .ref a ∧ SqA K H a xs ∧ DpAll K H xs ds) ∨ ((isiB (kdOf d) "tuple" || isiB (kdOf d) "list") = false ∧ flatD d = true) := by
  cases h with
  | non => exact .inr ⟨by decide, rfl⟩
  | bl b => exact .inr ⟨show (isiB "bool" "tuple" || isiB "bool" "list") = false by decide, rfl⟩
  | int i => exact .inr ⟨show (isiB "int" "tuple" || isiB "int" "list") = false by decide, rfl⟩
  | str x => exact .inr ⟨show (isiB "str" "tuple" || isiB "str" "list") = false by decide, rfl⟩
  | lst h1 h2 => exact .inl ⟨_, rfl, show (isiB "list" "tuple" || isiB "list" "list") = true by decide, _, _, rfl, .inl h1, h2⟩
  | tup h1 h2 => exact .inl ⟨_, rfl, show (isiB "tuple" "tuple" || isiB "tuple" "list") = true by decide, _, _, rfl, .inr h1, h2⟩
theorem dep_seq {n : Nat} {d : PyData} {ds : List PyData} (h : depD n d = true) (e : seqOf d = some ds) : ds.length ≤ 100000 ∧ ∃ m, n = m + 1 ∧ ∀ x ∈ ds, depD m x = true := by
  cases n with
  | zero =>
    cases d with
    | list xs => cases h
    | tuple xs => cases h
    | _ => cases e
  | succ m =>
    cases d with
    | list xs =>
      cases e
      obtain ⟨h1, h2⟩ := Bool.and_eq_true_iff.mp (show (decide (ds.length ≤ 100000) && ds.all (depD m)) = true from h)
      exact ⟨of_decide_eq_true h1, m, rfl, fun x hx => List.all_eq_true.mp h2 x hx⟩
    | tuple xs =>
      cases e
      obtain ⟨h1, h2⟩ := Bool.and_eq_true_iff.mp (show (decide (ds.length ≤ 100000) && ds.all (depD m)) = true from h)
      exact ⟨of_decide_eq_true h1, m, rfl, fun x hx => List.all_eq_true.mp h2 x hx⟩
    | _ => cases e
theorem rIx_ok {K : PySem.W.Frag} {H : Hp} {a : Addr} {xs : List V} {i : Int} {v : V} {Q : VK} (h : SqA K H a xs) (e : atI xs i = some v) (q : Q v H) : rIx K (.ref a) (.int i) H Q := by
  rcases h with h | h
  · exact .inl ⟨a, xs, i, v, rfl, rfl, h, e, q⟩
  · exact .inr (.inl ⟨a, xs, i, v, rfl, rfl, h, e, q⟩)
theorem at0 {xs : List V} {j : Nat} {v : V} (h : xs[j]? = some v) : atI xs (0 + (j : Int)) = some v := by
  rw [Int.zero_add]
  exact atI_nat h
end Bm
namespace Bm
open PySem PySem.Spec PyProof.Rows L2
/-! ### err.f of the caught exception, its class any of ours -/
def tXfA (K : PySem.W.Frag) (a : Addr) (cls : Value) (d : Option Addr) (n : Str) (te : TE) : TE := fun σ H Q => te σ H fun x H1 => x = .ref a ∧ ∃ (C dd : Addr) (fs : List (Str × V)) (v : V), cls = .ref C ∧ XfC K C ∧ PySem.W.findIn K (.ref C) n = some none ∧ d = some dd ∧ H1 dd = some (.xd fs) ∧ fs.lookup n = some v ∧ Q v H1
theorem pe_xfA {X : Cx} {a : Addr} {oe : Obj} {cls : Value} {d : Option Addr} {pn : List (Addr × Obj)} {e : Expr} {te : TE} {pos : Pos} {n : Str}
    (hz : Zc cls d oe) (hf : ∃ vs, oe.data = .fields vs) (he : PE (X.suite a ((a, oe) :: pn)) e te) (hb : attributeBase e n X.env (eval e X.env) = eval e X.env := by rfl) :
    PE (X.suite a ((a, oe) :: pn)) (.Attribute e n pos) (tXfA X.K a cls d n te) := by
  refine ⟨fun pins s σ H Q I h => ?_⟩
  refine attr_of hb (thn (he.run pins s σ H _ I h) fun u s1 hh => ?_)
  obtain ⟨x, H1, I1, rx, ex, C, dd, fs, v, ec, T, hno, ed, ea, l, q⟩ := hh
  subst ex
  obtain rfl : u = Value.ref a := rx
  subst ec
  subst ed
  obtain ⟨ha, _⟩ := I1.pin (a, oe) (List.mem_append_left _ List.mem_cons_self)
  obtain ⟨vs, hd⟩ := hf
  have hx : ObjOk X.prog X.w H1 s1.heap dd (.xd fs) := I1.hok dd _ ea
  obtain ⟨mA, hns, hr⟩ := hx
  obtain ⟨od, ho, hl⟩ := lookIn_ns hns
  obtain ⟨u, hu, ru⟩ := RelO.some_of (v := v) (o := mA n) (by rw [← l]; exact hr n)
  have J : PySem.W.InstAt s1.heap a oe C (some od) := ⟨ha, hz.1, by unfold PySem.W.notCls; rw [hd] <;> rfl, by rw [hz.2]; exact ho⟩
  exact HandSPX.exc_get I1.kIn J T.ga T.gg T.exC (PySem.W.findObj_own T.hdC hno rfl (by rw [hl, hu])) (handed_of ru) ⟨v, H1, I1.tok _, ru, q⟩
/-! ### what _law_kind makes of what is refused -/
def KindE (K : PySem.W.Frag) (Q : VK) : XK := fun cls d H => ∃ x ∈ allX, cls = .ref (He.ga K x) ∧
  ((x ∈ plainX ∧ d = none ∧ ∀ H', Same H H' → Q (.str x) H') ∨
   (x ∈ numX ∧ ∃ dd fs v, d = some dd ∧ H dd = some (.xd fs) ∧ fs.lookup ("number" : Str) = some v ∧ ∀ p H', H p = none → Same H H' → H' p = some (.tup [.str x, v]) → Q (.ref p) H') ∨
   (x = "BadRow" ∧ ∃ dd fs v u, d = some dd ∧ H dd = some (.xd fs) ∧ fs.lookup ("row" : Str) = some v ∧ fs.lookup ("why" : Str) = some u ∧ ∀ p H', H p = none → Same H H' → H' p = some (.tup [.str x, v, u]) → Q (.ref p) H'))
def TKind (K : PySem.W.Frag) : (XK → Hp → VK → Prop) → Hp → VK → Prop := fun tl H Q => tl (KindE K Q) H Q
def kindsL (x : Str) : List V := allX.map fun y => V.bl (decide (x = y))
theorem kinds_count : ∀ x ∈ allX, (kindsL x).countP (fun z => eqV z (.bl true)) = 1 := by decide +kernel
theorem kinds_at : ∀ x ∈ allX, ∃ j, j < 9 ∧ (kindsL x)[j]? = some (.bl true) ∧ (allX.map V.str)[j]? = some (.str x) ∧ (∀ m, m < j → (kindsL x)[m]? = some (.bl false)) ∧ (x ∈ plainX → j < 5) ∧ (x ∈ numX → 5 ≤ j ∧ j < 8) ∧ (x = "BadRow" → j = 8) := by decide +kernel
theorem kinds_flat : ∀ x ∈ allX, (kindsL x).all flatV = true := by decide +kernel
end Bm
namespace Bm
open PySem PySem.Spec PyProof.Rows L2
theorem pe_bmK {X : Cx} (K : PySem.W.Frag) {T : String} {name : Str} {id : String} {r : V → List V → Hp → VK → Prop} {o e : Expr} {es : List Expr} {to : TE} {t : TA} {apos cpos : Pos} (pa : PlainAttrs T) (slot : Slot T name id) (hty : typeOf (.builtin id) = pure (.type "method_descriptor")) (hm : MtR X id r) (ho : PE X o to) (ha : PA X (e :: es) t) (hK : X.K = K := by rfl)
    (hbase : attributeBase o name X.env (eval o X.env) = eval o X.env := by rfl)
    (hfew : ((backTo cpos (starEach (e :: es) X.env)).all (fun x => !x.1) && (backToKw cpos (keywordEach [] X.env)).all (fun x => x.1.isSome)
      && decide ((e :: es).length + ([] : List Keyword).length + (if ([] : List Keyword).isEmpty then 0 else 1) < 30)) = true := by rfl)
    (hline : (apos.endLine == cpos.line) = true := by rfl) (hs : starEach (e :: es) X.env = (false, eval e X.env) :: starEach es X.env := by rfl) (hplain : (backTo cpos (starEach es X.env)).any (·.1) = false := by rfl) :
    PE X (.Call (.Attribute o name apos) (e :: es) [] cpos) (tBM K T r to t) := by
  subst hK
  exact pe_bm pa slot hty hm ho ha hbase hfew hline hs hplain
theorem pe_bm0K {X : Cx} (K : PySem.W.Frag) {T : String} {name : Str} {id : String} {r : V → List V → Hp → VK → Prop} {o : Expr} {to : TE} {apos cpos : Pos} (pa : PlainAttrs T) (slot : Slot T name id) (hty : typeOf (.builtin id) = pure (.type "method_descriptor")) (hm : MtR X id r) (ho : PE X o to) (hK : X.K = K := by rfl)
    (hbase : attributeBase o name X.env (eval o X.env) = eval o X.env := by rfl) (hline : (apos.endLine == cpos.line) = true := by rfl) : PE X (.Call (.Attribute o name apos) [] [] cpos) (tBM0 K T r to) := by
  subst hK
  exact pe_bm0 pa slot hty hm ho hbase hline
end Bm
namespace Bm
open PySem PySem.Spec PyProof.Rows L2
/-- what is raised is raised where there are so many slots -/
theorem takes_len {X : Cx} {W : WX} {n : Nat} (t : Takes X W) (hn : X.N.length = n) : Takes X (fun cls d σ H => σ.length = n → W cls d σ H) := fun u s' z => by
  obtain ⟨a, B, sI, pins, σ, H, cls, d, e, I, nb, up, sky, na, os, ag, w⟩ := z
  exact t u s' ⟨a, B, sI, pins, σ, H, cls, d, e, I, nb, up, sky, na, os, ag, w (I.len.trans hn)⟩
end Bm
namespace Bm
open PySem L2
def kb (x : Str) (ys : List Str) : List V := ys.map fun y => V.bl (decide (x = y))
end Bm
namespace Bm
open PySem PySem.Spec PyProof.Rows L2
/-! ### an error with its number -/
def spNumI (K : PySem.W.Frag) : Sp := fun vs H Q _ => ∃ (a C : Addr) (v : V), vs = [.ref a, v] ∧ OexC K C ∧ PySem.W.findIn K (.ref C) "number" = some none ∧ H a = some (exo a C none) ∧ ∀ dx, H dx = none → dx ≠ a → Q .non (upd (upd H dx (exd dx [("number", v)])) a (exo a C (some dx)))
/-- what a raise of it asks -/
theorem num_ok {K : PySem.W.Frag} {H : Hp} {C : Addr} {v : V} {Q : XK} (O : OexC K C) (hno : PySem.W.findIn K (.ref C) "number" = some none) (q : ∀ d, H d = none → Q (.ref C) (some d) (upd H d (.xd [("number", v)]))) :
    ([v] : List V).length ≤ 1000 ∧ ∀ a, H a = none → spNumI K (.ref a :: ([v] ++ [])) (upd H a (exo a C none)) (fun v' H2 => v' = .non ∧ ∃ (d : Addr) (fs : List (Str × V)), H2 a = some (exo a C (some d)) ∧ H2 d = some (exd d fs) ∧ H d = none ∧ Q (.ref C) (some d) (upd (del H2 a) d (.xd fs))) (fun _ _ _ => False) := by
  refine ⟨by show 1 ≤ 1000; decide, fun a na => ⟨a, C, v, rfl, O, hno, upd_same, fun dx ndx nea => ⟨rfl, dx, [("number", v)], upd_same, ?_, ?_, ?_⟩⟩⟩
  · rw [upd_ne nea, upd_same]
  · rw [upd_ne nea] at ndx
    exact ndx
  · rw [upd_ne nea] at ndx
    have e : upd (del (upd (upd (upd H a (exo a C none)) dx (exd dx [("number", v)])) a (exo a C (some dx))) a) dx (.xd [("number", v)]) = upd H dx (.xd [("number", v)]) := by
      funext b
      by_cases hb : b = dx
      · rw [hb, upd_same, upd_same]
      · rw [upd_ne hb, upd_ne hb]
        by_cases ha : b = a
        · rw [ha, del_same, na]
        · rw [del_ne ha, upd_ne ha, upd_ne hb, upd_ne ha]
    rw [e]
    exact q dx ndx
/-- raised: the error x with the number v, all else kept -/
def ExN (K : PySem.W.Frag) (x : Str) (v : V) (H : Hp) (E : XK) : Prop := ∀ d H', H d = none → Same H H' → H' d = some (.xd [("number", v)]) → E (.ref (He.ga K x)) (some d) H'
theorem ExN.go {K : PySem.W.Frag} {x : Str} {v : V} {H H1 : Hp} {E : XK} (e : ExN K x v H E) (s : Same H H1) {d : Addr} (h : H1 d = none) : E (.ref (He.ga K x)) (some d) (upd H1 d (.xd [("number", v)])) :=
  e d _ (s.free h) (s.trans (Same.new h)) upd_same
/-! ### words -/
def firstBad (m : Nat) : List V → Nat → Option Nat
  | [], _ => none
  | x :: r, i => if (decide (i = m) || !isWhole x 0 65535) = true then some i else firstBad m r (i + 1)
/-- need_words, need_block's loop: m the most -/
def spNeed (K : PySem.W.Frag) (m : Nat) : Sp := fun vs H Q E => ∃ (a : Addr) (xs : List V), vs = [.ref a] ∧ SqA K H a xs ∧ (∀ x ∈ xs, ∃ n, Kd K H x n) ∧
  (firstBad m xs 0 = none → ∀ H', Same H H' → Q .non H') ∧ (∀ i, firstBad m xs 0 = some i → ExN K "BadImage" (.int (i : Nat)) H E)
end Bm
namespace Bm
open PySem PySem.Spec PyProof.Rows L2
theorem pe_gc {X : Cx} {x : Str} {v : V} {pos : Pos} (hg : Gl X x) (h : ∃ u, X.mg x = some u ∧ RelV v u) (hd : (x == ("__debug__" : Str)) = false := by decide) : PE X (.Name x pos) (tC v) := by
  obtain ⟨u, hm, r⟩ := h
  exact pe_glob hg hm r hd
end Bm
namespace Bm
open PySem PySem.Spec PyProof.Rows L2
theorem drop_at {α : Type} {xs : List α} {i : Nat} {x : α} (h : xs[i]? = some x) : xs.drop i = x :: xs.drop (i + 1) := by
  obtain ⟨hi, e⟩ := List.getElem?_eq_some_iff.mp h
  rw [List.drop_eq_getElem_cons hi, e]
theorem fb_step {m : Nat} {xs : List V} {i : Nat} {x : V} (h : xs[i]? = some x) : firstBad m (xs.drop i) i = if (decide (i = m) || !isWhole x 0 65535) = true then some i else firstBad m (xs.drop (i + 1)) (i + 1) := by
  rw [drop_at h]
  rfl
theorem dec_intN {i m : Nat} : decide (V.int ((i : Nat) : Int) = V.int ((m : Nat) : Int)) = decide (i = m) := by
  rw [Bool.eq_iff_iff]
  simp
  omega
end Bm


set_option Elab.async false
set_option linter.all false
set_option maxRecDepth 100000
set_option maxHeartbeats 4000000
set_option autoImplicit false
/-! seals: the mathematics -/
namespace Bm
/-! ### sums of bits -/
def bsum (f : Nat → Bool) : Nat → Nat
  | 0 => 0
  | n + 1 => bsum f n + 2 ^ n * (f n).toNat
theorem bsum_lt (f : Nat → Bool) : ∀ n, bsum f n < 2 ^ n
  | 0 => by show 0 < 1; decide
  | n + 1 => by
    have h := bsum_lt f n
    have hp : (2 : Nat) ^ (n + 1) = 2 ^ n * 2 := Nat.pow_succ ..
    show bsum f n + 2 ^ n * (f n).toNat < _
    cases f n
    · simp only [Bool.toNat_false, Nat.mul_zero]; omega
    · simp only [Bool.toNat_true, Nat.mul_one]; omega
theorem bsum_bit (f : Nat → Bool) (k : Nat) : ∀ n, (bsum f n).testBit k = (decide (k < n) && f k)
  | 0 => by simp [bsum]
  | n + 1 => by
    have h := bsum_bit f k n
    have hl := bsum_lt f n
    show (bsum f n + 2 ^ n * (f n).toNat).testBit k = _
    rw [Nat.add_comm, Nat.testBit_two_pow_mul_add _ hl]
    by_cases hk : k < n
    · rw [if_pos hk, h]
      simp [hk, Nat.lt_succ_of_lt hk]
    · rw [if_neg hk]
      by_cases he : k = n
      · subst he
        cases hf : f k <;> simp
      · have h1 : ¬ k < n + 1 := by omega
        have h2 : k - n ≠ 0 := by omega
        have h3 : Nat.testBit 1 (k - n) = false := Nat.testBit_lt_two_pow (Nat.one_lt_two_pow h2)
        cases f n <;> simp [h1, h3]
theorem bsum_congr {f g : Nat → Bool} : ∀ {n : Nat}, (∀ k, k < n → f k = g k) → bsum f n = bsum g n
  | 0, _ => rfl
  | n + 1, h => by
    show bsum f n + 2 ^ n * (f n).toNat = bsum g n + 2 ^ n * (g n).toNat
    rw [bsum_congr fun k hk => h k (Nat.lt_succ_of_lt hk), h n (Nat.lt_succ_self n)]
theorem bsum_self {x n : Nat} (h : x < 2 ^ n) : bsum (fun k => x.testBit k) n = x := by
  apply Nat.eq_of_testBit_eq
  intro k
  rw [bsum_bit]
  by_cases hk : k < n
  · simp [hk]
  · have h2 : x < 2 ^ k := Nat.lt_of_lt_of_le h (Nat.pow_le_pow_right (by decide) (by omega))
    simp [hk, Nat.testBit_lt_two_pow h2]
/-! ### columns -/
def cols (ws : List Nat) : Nat := ws.foldl (fun a b => a ^^^ b) 0
theorem foldl_xor_bit (k : Nat) : ∀ (ws : List Nat) (a : Nat), (ws.foldl (fun a b => a ^^^ b) a).testBit k = (a.testBit k ^^ (ws.foldr (fun w b => w.testBit k ^^ b) false))
  | [], a => by simp
  | w :: r, a => by
    rw [List.foldl_cons, foldl_xor_bit k r, Nat.testBit_xor, List.foldr_cons, Bool.xor_assoc]
theorem cols_bit (ws : List Nat) (k : Nat) : (cols ws).testBit k = ws.foldr (fun w b => w.testBit k ^^ b) false := by
  unfold cols
  rw [foldl_xor_bit]
  simp
theorem cols_lt {n : Nat} : ∀ {ws : List Nat} {a : Nat}, (∀ w ∈ ws, w < 2 ^ n) → a < 2 ^ n → ws.foldl (fun a b => a ^^^ b) a < 2 ^ n
  | [], a, _, ha => ha
  | w :: r, a, h, ha => cols_lt (ws := r) (fun x hx => h x (List.mem_cons_of_mem _ hx)) (Nat.xor_lt_two_pow ha (h w List.mem_cons_self))
/-- the law's sum of bits -/
def bitcount (k : Nat) (ws : List Nat) : Nat := (ws.map fun w => w / 2 ^ k % 2).sum
theorem bitcount_mod (k : Nat) : ∀ ws : List Nat, bitcount k ws % 2 = (ws.foldr (fun w b => w.testBit k ^^ b) false).toNat
  | [] => rfl
  | w :: r => by
    have ih := bitcount_mod k r
    show (w / 2 ^ k % 2 + bitcount k r) % 2 = (w.testBit k ^^ _).toNat
    have hb : w / 2 ^ k % 2 = (w.testBit k).toNat := by
      rw [Nat.testBit_eq_decide_div_mod_eq]
      rcases Nat.mod_two_eq_zero_or_one (w / 2 ^ k) with h | h <;> rw [h] <;> rfl
    rw [hb, Nat.add_mod, ih]
    cases w.testBit k <;> cases (r.foldr (fun w b => w.testBit k ^^ b) false) <;> rfl
theorem law_cols {ws : List Nat} (h : ∀ w ∈ ws, w < 65536) : bsum (fun k => decide (bitcount k ws % 2 = 1)) 16 = cols ws := by
  have hl : cols ws < 2 ^ 16 := cols_lt (fun w hw => h w hw) (by decide)
  rw [← bsum_self hl]
  refine bsum_congr fun k _ => ?_
  rw [bitcount_mod, cols_bit]
  cases (ws.foldr (fun w b => w.testBit k ^^ b) false) <;> rfl
/-! ### marks -/
def marksA : List Nat → Nat → Nat → Nat
  | [], _, acc => acc
  | w :: r, i, acc => marksA r (i + 1) (acc ||| (oddB w).toNat * 2 ^ i)
def marks (ws : List Nat) : Nat := marksA ws 0 0 ||| (oddB (cols ws)).toNat * 2 ^ 14
theorem bit_shl (b : Bool) (i k : Nat) : (b.toNat * 2 ^ i).testBit k = (decide (k = i) && b) := by
  cases b
  · simp
  · rw [Bool.toNat_true, Nat.one_mul, Nat.testBit_two_pow]
    by_cases h : k = i
    · simp [h]
    · have h2 : ¬ i = k := fun z => h z.symm
      simp [h, h2]
theorem marksA_bit (k : Nat) : ∀ (ws : List Nat) (i acc : Nat), (marksA ws i acc).testBit k = (acc.testBit k || (decide (i ≤ k) && ((ws[k - i]?).map oddB).getD false))
  | [], i, acc => by simp [marksA]
  | w :: r, i, acc => by
    show (marksA r (i + 1) (acc ||| (oddB w).toNat * 2 ^ i)).testBit k = _
    rw [marksA_bit k r, Nat.testBit_or, bit_shl]
    by_cases h1 : k = i
    · subst h1
      have h2 : ¬ k + 1 ≤ k := by omega
      simp [h2]
    · by_cases h3 : i ≤ k
      · have h4 : i + 1 ≤ k := by omega
        have h5 : k - i = (k - (i + 1)) + 1 := by omega
        rw [h5]
        simp [h1, h3, h4]
      · have h4 : ¬ i + 1 ≤ k := by omega
        simp [h1, h3, h4]
theorem law_marks {ws : List Nat} (h : ws.length ≤ 14) : bsum (fun k => ((ws[k]?).map oddB).getD false) 14 + 2 ^ 14 * (oddB (cols ws)).toNat = marks ws := by
  have e : bsum (fun k => ((ws[k]?).map oddB).getD false) 14 + 2 ^ 14 * (oddB (cols ws)).toNat = bsum (fun k => if k = 14 then oddB (cols ws) else ((ws[k]?).map oddB).getD false) 15 := by
    show _ = bsum _ 14 + 2 ^ 14 * (if 14 = 14 then oddB (cols ws) else _).toNat
    rw [if_pos rfl]
    congr 1
  rw [e]
  apply Nat.eq_of_testBit_eq
  intro k
  rw [bsum_bit]
  unfold marks
  rw [Nat.testBit_or, marksA_bit, bit_shl]
  by_cases hk : k = 14
  · subst hk
    have h2 : ws[14]? = none := List.getElem?_eq_none_iff.mpr h
    simp [h2]
  · by_cases hk2 : k < 15
    · simp [hk, hk2]
    · have h2 : ws[k]? = none := List.getElem?_eq_none_iff.mpr (by omega)
      simp [hk, hk2, h2]
end Bm
namespace Bm
open PySem PySem.Spec PyProof.Rows L2
def wsV (ws : List Nat) : List V := ws.map fun n : Nat => V.int ((n : Nat) : Int)
theorem wsV_get {ws : List Nat} {i : Nat} {x : V} (h : (wsV ws)[i]? = some x) : ∃ n, ws[i]? = some n ∧ x = .int (n : Int) := by
  unfold wsV at h
  rw [List.getElem?_map] at h
  cases e : ws[i]? with
  | none => rw [e] at h; cases h
  | some n => rw [e] at h; exact ⟨n, rfl, (Option.some.inj h).symm⟩
theorem b2n (b : Bool) : V.int (if b = true then 1 else 0) = V.int ((b.toNat : Nat) : Int) := by cases b <;> rfl
theorem b2n_lt (b : Bool) : b.toNat < 2 ^ 64 := by cases b <;> decide
def spCols (K : PySem.W.Frag) : Sp := fun vs H Q _ => ∃ (a : Addr) (ws : List Nat), vs = [.ref a] ∧ SqA K H a (wsV ws) ∧ Q (.int ((cols ws : Nat) : Int)) H
def spMarks (K : PySem.W.Frag) : Sp := fun vs H Q _ => ∃ (a : Addr) (ws : List Nat), vs = [.ref a] ∧ SqA K H a (wsV ws) ∧ ws.length ≤ 1000 ∧ ∀ H', Same H H' → Q (.int ((marks ws : Nat) : Int)) H'
end Bm
namespace Bm
open PySem PySem.Spec PyProof.Rows L2
/-! ### slices of a list or a tuple -/
def rSlAny (K : PySem.W.Frag) : V → Option Int → Option Int → Hp → VK → Prop := fun x lo hi H Q => rSlL K x lo hi H Q ∨ rSlA K x lo hi H Q
theorem sl_any {X : Cx} : SlR X (rSlAny X.K) := sl_list.or sl_tupA
theorem cutV_all {xs : List V} {lo hi : Option Int} (h : HT.sIx xs.length 0 lo = 0 ∧ HT.sIx xs.length xs.length hi = xs.length) : cutV xs lo hi = xs := by
  unfold cutV
  rw [h.1, h.2, List.drop_zero, Nat.sub_zero, List.take_length]
theorem slAny_ok {K : PySem.W.Frag} {H : Hp} {a : Addr} {xs : List V} {lo hi : Option Int} {Q : VK} (h : SqA K H a xs) (q : ∀ p H', Same H H' → SqA K H' p (cutV xs lo hi) → Q (.ref p) H') : rSlAny K (.ref a) lo hi H Q := by
  rcases h with h | h
  · exact .inl ⟨a, xs, rfl, h, fun p np => q p _ (Same.new np) (.inl (SqL.of upd_same))⟩
  · refine .inr ⟨a, xs, rfl, h, fun e => q a H (Same.refl H) (.inr (by rw [cutV_all e]; exact h)), fun _ p np => q p _ (Same.new np) (.inr (SqT.of upd_same))⟩
theorem cut_nat {xs : List V} (i j : Nat) : cutV xs (some (i : Int)) (some (j : Int)) = (xs.drop i).take (j - i) := by
  unfold cutV
  rw [HT.sIx_nat, HT.sIx_nat]
  by_cases h : i ≤ xs.length
  · rw [Nat.min_eq_left h]
    by_cases h2 : j ≤ xs.length
    · rw [Nat.min_eq_left h2]
    · rw [Nat.min_eq_right (by omega), List.take_of_length_le (by rw [List.length_drop]; omega), List.take_of_length_le (by rw [List.length_drop]; omega)]
  · have h1 : xs.drop (min i xs.length) = [] := List.drop_eq_nil_iff.mpr (by omega)
    have h2 : xs.drop i = [] := List.drop_eq_nil_iff.mpr (by omega)
    rw [h1, h2]
    simp
theorem cut_to {xs : List V} (j : Nat) : cutV xs none (some (j : Int)) = xs.take j := by
  have e : cutV xs none (some (j : Int)) = cutV xs (some ((0 : Nat) : Int)) (some (j : Int)) := by
    unfold cutV
    simp only [HT.sIx_nat, HT.sIx_none, Nat.zero_min]
  rw [e, cut_nat]
  simp
theorem cut_from {xs : List V} (i : Nat) : cutV xs (some (i : Int)) none = xs.drop i := by
  unfold cutV
  rw [HT.sIx_nat, HT.sIx_none]
  by_cases h : i ≤ xs.length
  · rw [Nat.min_eq_left h]
    exact List.take_of_length_le (by rw [List.length_drop]; omega)
  · have h1 : xs.drop (min i xs.length) = [] := List.drop_eq_nil_iff.mpr (by omega)
    have h2 : xs.drop i = [] := List.drop_eq_nil_iff.mpr (by omega)
    rw [h1, h2]
    simp
theorem wsV_cut (ws : List Nat) (i j : Nat) : ((wsV ws).drop i).take j = wsV ((ws.drop i).take j) := by
  unfold wsV
  rw [List.map_take, List.map_drop]
/-! ### ranges by steps -/
theorem rgSize_up {n c : Nat} (hc : 0 < c) : Builtin.Range.rangeSize 0 (n : Int) (c : Int) = (((n + c - 1) / c : Nat) : Int) := by
  unfold Builtin.Range.rangeSize
  rw [if_pos (by omega)]
  by_cases h : n = 0
  · subst h
    rw [if_neg (by decide)]
    rw [Nat.zero_add, Nat.div_eq_of_lt (by omega)]
    rfl
  · rw [if_pos (by omega)]
    have e : n + c - 1 = (n - 1) + c := by omega
    rw [e, Nat.add_div_right _ hc]
    have e2 : ((n : Int) - 0 - 1) = ((n - 1 : Nat) : Int) := by omega
    rw [e2]
    norm_cast
theorem rgC_up {n c : Nat} (hc : 0 < c) (hc2 : c < 1000000) (hn : n < 1000000) : RgC 0 (n : Int) (c : Int) ((n + c - 1) / c) := by
  refine ⟨by omega, by omega, ?_, rgSize_up hc⟩
  have h1 : (n + c - 1) / c ≤ n + c - 1 := Nat.div_le_self _ _
  unfold Builtin.Range.small
  rw [rgSize_up hc]
  simp only [Builtin.Range.rangeFitsLong, Bool.and_eq_true, Bool.or_eq_true, decide_eq_true_eq, beq_iff_eq]
  rw [if_pos (by omega)]
  generalize (n + c - 1) / c = k at h1
  have h2 : (decide (-2 ^ 63 ≤ (n : Int) + ((c : Int) - 1)) && decide ((n : Int) + ((c : Int) - 1) < 2 ^ 63)) = true := by
    simp only [Bool.and_eq_true, decide_eq_true_eq]
    omega
  exact ⟨by omega, .inr h2⟩
end Bm
namespace Bm
open PySem PySem.Spec PyProof.Rows L2
def spBlock (K : PySem.W.Frag) : Sp := fun vs H Q _ => ∃ (a : Addr) (ws : List Nat), vs = [.ref a] ∧ SqA K H a (wsV ws) ∧ ws.length ≤ 1000 ∧ ∀ p H', Same H H' → H' p = some (.tup (wsV (ws ++ [cols ws, marks ws]))) → Q (.ref p) H'
theorem bad_none {m : Nat} : ∀ {xs : List V} {i : Nat}, firstBad m xs i = none → i ≤ m → ∃ ws : List Nat, xs = wsV ws ∧ (∀ w ∈ ws, w < 65536) ∧ i + ws.length ≤ m
  | [], i, _, h => ⟨[], rfl, fun _ h => (by cases h), h⟩
  | x :: r, i, h, hi => by
    have h : (if (decide (i = m) || !isWhole x 0 65535) = true then some i else firstBad m r (i + 1)) = none := h
    by_cases hc : (decide (i = m) || !isWhole x 0 65535) = true
    · rw [if_pos hc] at h
      cases h
    · rw [if_neg hc] at h
      have h1 : i ≠ m := fun z => hc (by rw [z]; simp)
      have h2 : isWhole x 0 65535 = true := by
        cases e : isWhole x 0 65535 with
        | true => rfl
        | false => exact absurd (by rw [e]; simp) hc
      obtain ⟨ws, e, hw, hl⟩ := bad_none h (by omega)
      cases x with
      | int n =>
        have h3 : (decide ((0 : Int) ≤ n) && decide (n ≤ 65535)) = true := h2
        simp only [Bool.and_eq_true, decide_eq_true_eq] at h3
        refine ⟨n.toNat :: ws, ?_, fun w hw' => ?_, by simp only [List.length_cons]; omega⟩
        · show V.int n :: r = V.int ((n.toNat : Nat) : Int) :: wsV ws
          rw [e, show ((n.toNat : Nat) : Int) = n by omega]
        · rcases List.mem_cons.mp hw' with rfl | hw'
          · omega
          · exact hw w hw'
      | _ => cases h2
theorem bad_ws {m : Nat} : ∀ {ws : List Nat} {i : Nat}, (∀ w ∈ ws, w < 65536) → i + ws.length ≤ m → firstBad m (wsV ws) i = none
  | [], i, _, _ => rfl
  | w :: r, i, hw, hl => by
    have h0 := hw w List.mem_cons_self
    have hl' : i + (r.length + 1) ≤ m := hl
    show (if (decide (i = m) || !isWhole (.int ((w : Nat) : Int)) 0 65535) = true then some i else firstBad m (wsV r) (i + 1)) = none
    have e : isWhole (.int ((w : Nat) : Int)) 0 65535 = true := by
      show (decide ((0 : Int) ≤ (w : Int)) && decide ((w : Int) ≤ 65535)) = true
      simp only [Bool.and_eq_true, decide_eq_true_eq]
      omega
    rw [e, if_neg (by simp; omega)]
    exact bad_ws (fun x hx => hw x (List.mem_cons_of_mem _ hx)) (by omega)
def numsD (ns : List Nat) : List PyData := ns.map fun n : Nat => PyData.int ((n : Nat) : Int)
theorem dpAll_ws {K : PySem.W.Frag} {H : Hp} : ∀ ws : List Nat, DpAll K H (wsV ws) (numsD ws)
  | [] => .nil
  | w :: r => .cons (.int _) (dpAll_ws r)
def blkD (ws : List Nat) : PyData := .tuple (numsD (ws ++ [cols ws, marks ws]))
def chunk (ws : List Nat) (i : Nat) : List Nat := (ws.drop (i * 14)).take 14
def sealD (ws : List Nat) : List PyData := (List.range ((ws.length + 13) / 14)).map fun i => blkD (chunk ws i)
def spSealed (K : PySem.W.Frag) : Sp := fun vs H Q E => ∃ (a : Addr) (xs : List V), vs = [.ref a] ∧ SqA K H a xs ∧ (∀ x ∈ xs, ∃ n, Kd K H x n) ∧ (∀ i, firstBad 200 xs 0 = some i → ExN K "BadImage" (.int (i : Nat)) H E) ∧
  (∀ ws, xs = wsV ws → (∀ w ∈ ws, w < 65536) → ws.length ≤ 200 → ∀ p H' ys, H p = none → Same H H' → H' p = some (.lst ys) → DpAll K H' ys (sealD ws) → Q (.ref p) H')
end Bm
namespace Bm
open PySem PySem.Spec PyProof.Rows L2
def BlkAt (H : Hp) (ws : List Nat) (ys : List V) (i : Nat) : Prop := ys.length = i ∧ ∀ k, k < i → ∃ r, ys[k]? = some (.ref r) ∧ H r = some (.tup (wsV (chunk ws k ++ [cols (chunk ws k), marks (chunk ws k)])))
theorem dpAll_of {K : PySem.W.Frag} {H : Hp} : ∀ {ys : List V} {ds : List PyData}, ys.length = ds.length → (∀ (k : Nat) y d, ys[k]? = some y → ds[k]? = some d → Dp K H y d) → DpAll K H ys ds
  | [], [], _, _ => .nil
  | [], _ :: _, h, _ => by cases h
  | _ :: _, [], h, _ => by cases h
  | y :: ys, d :: ds, h, k => .cons (k 0 y d rfl rfl) (dpAll_of (by simpa using h) fun j y' d' h1 h2 => k (j + 1) y' d' (by simpa using h1) (by simpa using h2))
theorem BlkAt.dp {K : PySem.W.Frag} {H : Hp} {ws : List Nat} {ys : List V} (h : BlkAt H ws ys ((ws.length + 13) / 14)) : DpAll K H ys (sealD ws) := by
  refine dpAll_of (by rw [h.1]; unfold sealD; simp) fun k y d h1 h2 => ?_
  unfold sealD at h2
  rw [List.getElem?_map] at h2
  have hk : k < (ws.length + 13) / 14 := by
    have z := (List.getElem?_eq_some_iff.mp h1).1
    rw [h.1] at z
    exact z
  obtain ⟨r, e1, e2⟩ := h.2 k hk
  rw [e1] at h1
  cases h1
  have h3 : (List.range ((ws.length + 13) / 14))[k]? = some k := by simp [hk]
  rw [h3] at h2
  cases h2
  exact .tup (SqT.of e2) (dpAll_ws _)
end Bm
namespace Bm
open PySem PySem.Spec PyProof.Rows L2
def spNeedB (K : PySem.W.Frag) : Sp := fun vs H Q E => ∃ (a : Addr) (xs : List V), vs = [.ref a] ∧ SqA K H a xs ∧ (∀ x ∈ xs, ∃ n, Kd K H x n) ∧ (∀ i, firstBad 16 xs 0 = some i → ExN K "BadImage" (.int (i : Nat)) H E) ∧
  (firstBad 16 xs 0 = none → xs.length < 3 → ExN K "BadImage" (.int (xs.length : Nat)) H E) ∧ (firstBad 16 xs 0 = none → 3 ≤ xs.length → ∀ H', Same H H' → Q .non H')
/-- the places of the bits that are 1 -/
def bitsOf (n : Nat) : List Nat := (List.range (Builtin.Int.intBits ((n : Nat) : Int))).filter fun k => n.testBit k
def spBits : Sp := fun vs H Q _ => ∃ n : Nat, vs = [.int (n : Int)] ∧ n < 2 ^ 60 ∧ ∀ p H', H p = none → Same H H' → H' p = some (.lst (wsV (bitsOf n))) → Q (.ref p) H'
theorem bits_le {n m : Nat} (h : n < 2 ^ m) : Builtin.Int.intBits ((n : Nat) : Int) ≤ m := PyProof.Rows.intBits_le (by simpa using h)
theorem bit1 (n k : Nat) : decide (V.int (((n / 2 ^ k &&& 1 : Nat)) : Int) = V.int 1) = n.testBit k := by
  rw [Nat.and_one_is_mod, Nat.testBit_eq_decide_div_mod_eq]
  rcases Nat.mod_two_eq_zero_or_one (n / 2 ^ k) with h | h <;> rw [h] <;> rfl
/-- the rows' marks as the words have them -/
def rowsA : List Nat → Nat → List Nat
  | [], _ => []
  | w :: r, i => (oddB w).toNat * 2 ^ i :: rowsA r (i + 1)
theorem rowsA_len : ∀ (ws : List Nat) (i : Nat), (rowsA ws i).length = ws.length
  | [], _ => rfl
  | w :: r, i => by simp [rowsA, rowsA_len r]
theorem rowsA_take (ws : List Nat) (j : Nat) : ∀ (i : Nat), rowsA (ws.take i) j = (rowsA ws j).take i := by
  induction ws generalizing j with
  | nil => intro i; simp [rowsA]
  | cons w r ih =>
    intro i
    cases i with
    | zero => rfl
    | succ i => simp [rowsA, ih]
theorem rowsA_get : ∀ {ws : List Nat} {j k n : Nat}, ws[k]? = some n → (rowsA ws j)[k]? = some ((oddB n).toNat * 2 ^ (j + k))
  | [], _, _, _, h => by simp at h
  | w :: r, j, 0, n, h => by
    have e : w = n := by simpa using h
    subst e
    rfl
  | w :: r, j, k + 1, n, h => by
    have h1 := rowsA_get (ws := r) (j := j + 1) (k := k) (n := n) (by simpa using h)
    show (rowsA r (j + 1))[k]? = _
    rw [h1, Nat.add_assoc, Nat.add_comm 1 k]
def rowsW (ws : List Nat) (c : Nat) : Nat := (rowsA ws 0 ++ [(oddB c).toNat * 2 ^ 14]).sum
theorem sum_wsV : ∀ ns : List Nat, (ns.map fun n : Nat => ((n : Nat) : Int)).sum = ((ns.sum : Nat) : Int)
  | [] => rfl
  | n :: r => by
    rw [List.map_cons, List.sum_cons, List.sum_cons, sum_wsV r]
    omega
theorem wsV_int (ns : List Nat) : wsV ns = (ns.map fun n : Nat => ((n : Nat) : Int)).map V.int := by
  unfold wsV
  rw [List.map_map]
  rfl
/-- what mended makes of a block -/
def mendR (b : List Nat) : Option (List Nat × Option (Nat × Nat)) :=
  let many := b.length - 2
  let ws := b.take many
  let cs := bitsOf (cols (b.take (many + 1)))
  let rs := bitsOf (rowsW ws (b.getD many 0) ^^^ b.getD (many + 1) 0)
  if rs = [] ∧ cs = [] then some (ws, none)
  else if rs.length ≠ 1 ∨ 1 < cs.length then none
  else if cs = [] then some (ws, some (many + 1, rs.getD 0 0))
  else if rs.getD 0 0 < many then some (ws.set (rs.getD 0 0) (ws.getD (rs.getD 0 0) 0 ^^^ 1 * 2 ^ cs.getD 0 0), some (rs.getD 0 0, cs.getD 0 0))
  else if rs.getD 0 0 ≠ 14 then none
  else some (ws, some (many, cs.getD 0 0))
def mendD (r : List Nat × Option (Nat × Nat)) : PyData := .tuple [.tuple (numsD r.1), match r.2 with | none => .none | some (i, k) => .tuple [.int (i : Nat), .int (k : Nat)]]
def spMended (K : PySem.W.Frag) : Sp := fun vs H Q E => ∃ (a : Addr) (xs : List V), vs = [.ref a] ∧ SqA K H a xs ∧ (∀ x ∈ xs, ∃ n, Kd K H x n) ∧ (∀ i, firstBad 16 xs 0 = some i → ExN K "BadImage" (.int (i : Nat)) H E) ∧
  (firstBad 16 xs 0 = none → xs.length < 3 → ExN K "BadImage" (.int (xs.length : Nat)) H E) ∧
  (∀ b, xs = wsV b → (∀ w ∈ b, w < 65536) → 3 ≤ b.length → b.length ≤ 16 → mendR b = none → ∀ H', Same H H' → E (.ref (He.ga K "NoMend")) none H') ∧
  (∀ b r, xs = wsV b → (∀ w ∈ b, w < 65536) → 3 ≤ b.length → b.length ≤ 16 → mendR b = some r → ∀ v H', Same H H' → Dp K H' v (mendD r) → Q v H')
end Bm
namespace Bm
open PySem PySem.Spec PyProof.Rows L2
theorem lay_nums : ∀ ns : List Nat, PyData.canLayAll0 (numsD ns) = true
  | [] => rfl
  | n :: r => by
    show (PyData.canLay0 (.int _) && PyData.canLayAll0 (numsD r)) = true
    rw [lay_nums r]
    rfl
theorem dep_nums : ∀ ns : List Nat, PyData.depthAll (numsD ns) ≤ 1
  | [] => by decide
  | n :: r => by
    have h := dep_nums r
    show max (PyData.depth (.int _)) (PyData.depthAll (numsD r)) ≤ 1
    have h2 : PyData.depth (.int ((n : Nat) : Int)) ≤ 1 := by first | exact Nat.le_refl _ | exact Nat.zero_le _
    omega
theorem shp_nums (ns : List Nat) : SeqAt.shaped (.list (numsD ns)) = true := by
  have h := dep_nums ns
  refine Bool.and_eq_true_iff.mpr ⟨lay_nums ns, decide_eq_true ?_⟩
  show PyData.depthAll (numsD ns) + 1 ≤ 64
  omega
theorem eqv_nil (ns : List Nat) : PyData.eqv (.list (numsD ns)) (.list []) = decide (ns = []) := by
  cases ns with
  | nil => rfl
  | cons n r => rfl
end Bm
namespace Bm
open PySem PySem.Spec PyProof.Rows L2
section
variable {K : PySem.W.Frag} {σ : L2.St} {H : Hp} {i : Nat} {l : Addr} {ns : List Nat}
theorem et_eqnil (hi : σ[i]? = some (some (.ref l))) (h : H l = some (.lst (wsV ns))) : Evl.EvT (tTest (tOp (rEqD K) (tVar i) (tLst tNil))) σ H (decide (ns = [])) :=
  Evl.et_test (Evl.ev_opL (Evl.ev_var hi) (Evl.el_lst Evl.ea_nil (by decide)) fun p H1 hp e1 => Evl.rv_val fun H2 e2 Q q =>
    ⟨.list (numsD ns), .list [], .lst (SqL.of (e2 _ _ (e1 _ _ h))) (dpAll_ws _), .lst (SqL.of (e2 _ _ hp)) .nil, shp_nums _, rfl, by rw [eqv_nil]; exact q⟩)
theorem ev_lenW (hi : σ[i]? = some (some (.ref l))) (h : H l = some (.lst (wsV ns))) : Evl.Ev (tCB (rLenSq K) (tCons (tVar i) tNil)) σ H (.int ((ns.length : Nat) : Int)) := fun H1 e Q q =>
  ⟨_, hi, l, wsV ns, rfl, .inl (SqL.of (e _ _ h)), by rw [show (wsV ns).length = ns.length from List.length_map ..]; exact q H1 (Evl.Ex.refl H1)⟩
theorem et_lenNe (hi : σ[i]? = some (some (.ref l))) (h : H l = some (.lst (wsV ns))) (m : Nat) : Evl.EvT (tTest (tOp rNe (tCB (rLenSq K) (tCons (tVar i) tNil)) (tC (.int ((m : Nat) : Int))))) σ H (!decide (ns.length = m)) :=
  Evl.et_is (Evl.et_test (Evl.ev_op (ev_lenW hi h) Evl.ev_c (Evl.rv_ne rfl))) (by rw [dec_intN])
theorem et_lenGt (hi : σ[i]? = some (some (.ref l))) (h : H l = some (.lst (wsV ns))) (m : Nat) : Evl.EvT (tTest (tOp (rI0 fun i j => .bl (decide (j < i))) (tCB (rLenSq K) (tCons (tVar i) tNil)) (tC (.int ((m : Nat) : Int))))) σ H (decide (m < ns.length)) :=
  Evl.et_is (Evl.et_test (Evl.ev_op (ev_lenW hi h) Evl.ev_c Evl.rv_I0)) (by rw [Bool.eq_iff_iff]; simp only [decide_eq_true_eq]; omega)
end
theorem rowsA_sum : ∀ (ws : List Nat) (i : Nat), (rowsA ws i).sum + 2 ^ i ≤ 2 ^ (i + ws.length)
  | [], i => by simp [rowsA]
  | w :: r, i => by
    have h := rowsA_sum r (i + 1)
    have h2 : (oddB w).toNat * 2 ^ i ≤ 2 ^ i := by cases oddB w <;> simp
    show (oddB w).toNat * 2 ^ i + (rowsA r (i + 1)).sum + 2 ^ i ≤ 2 ^ (i + (r.length + 1))
    rw [show i + (r.length + 1) = i + 1 + r.length by omega]
    have h3 : (2 : Nat) ^ (i + 1) = 2 ^ i * 2 := Nat.pow_succ ..
    omega
theorem rowsW_lt {ws : List Nat} {c : Nat} (h : ws.length ≤ 14) : rowsW ws c < 2 ^ 15 := by
  unfold rowsW
  rw [List.sum_append]
  have h1 := rowsA_sum ws 0
  have h2 : (2 : Nat) ^ (0 + ws.length) ≤ 2 ^ 14 := Nat.pow_le_pow_right (by decide) (by omega)
  have h3 : [(oddB c).toNat * 2 ^ 14].sum ≤ 2 ^ 14 := by
    cases oddB c <;> simp
  have h4 : (2 : Nat) ^ 15 = 2 ^ 14 + 2 ^ 14 := by decide
  have h5 : (2 : Nat) ^ 0 = 1 := rfl
  omega
end Bm
namespace Bm
open PySem PySem.Spec PyProof.Rows L2
theorem bitsOf_lt {n m : Nat} (h : n < 2 ^ m) : ∀ k ∈ bitsOf n, k < m := fun k hk => by
  have h1 := (List.mem_filter.mp hk).1
  have h2 := List.mem_range.mp h1
  exact Nat.lt_of_lt_of_le h2 (bits_le h)
end Bm
namespace Bm
open PySem PySem.Spec PyProof.Rows L2
theorem op_modNN {X : Cx} : OpR X (binaryOp .Mod) (rNc (fun _ m => 0 < m) fun n m => n % m) := opNc_of op_mod (fun n m c => by show (0 : Int) < m; omega) (fun n m _ => by omega)
theorem op_divNN {X : Cx} : OpR X (binaryOp .FloorDiv) (rNc (fun _ m => 0 < m ∧ m < 1073741824) fun n m => n / m) := opNc_of op_fdiv (fun n m c => ⟨by have := c.1; omega, by have := c.2; omega⟩) (fun n m _ => by omega)
theorem op_mulNN {X : Cx} : OpR X (binaryOp .Mult) (rNc (fun n _ => n ≤ 4294967296) fun n m => n * m) := opNc_of op_mul (fun n m c => .inl ⟨by omega, by omega⟩) (fun n m _ => by rw [Int.natCast_mul])
def spLOdd : Sp := fun vs H Q _ => ∃ n : Nat, vs = [.int (n : Int)] ∧ Q (.int (((oddB n).toNat : Nat) : Int)) H
def spLBlock (K : PySem.W.Frag) : Sp := fun vs H Q _ => ∃ (a : Addr) (ws : List Nat), vs = [.ref a] ∧ SqL K H a (wsV ws) ∧ ws.length ≤ 14 ∧ (∀ w ∈ ws, w < 65536) ∧ ∀ p H', Same H H' → H' p = some (.tup (wsV (ws ++ [cols ws, marks ws]))) → Q (.ref p) H'
end Bm
namespace Bm
open PySem PySem.Spec PyProof.Rows L2
/-! ### a sealed block is mended to its words -/
theorem rowsA_bsum (ws : List Nat) : ∀ n, n ≤ ws.length → ((rowsA ws 0).take n).sum = bsum (fun k => ((ws[k]?).map oddB).getD false) n
  | 0, _ => rfl
  | n + 1, h => by
    have e : ws[n]? = some ws[n] := List.getElem?_eq_getElem h
    rw [List.take_add_one, rowsA_get e, List.sum_append, rowsA_bsum ws n (by omega), Nat.zero_add]
    show _ + [(oddB ws[n]).toNat * 2 ^ n].sum = bsum _ n + 2 ^ n * (((ws[n]?).map oddB).getD false).toNat
    rw [e, Nat.mul_comm (2 ^ n)]
    simp
theorem bsum_more {f : Nat → Bool} {n : Nat} : ∀ {m : Nat}, (∀ k, n ≤ k → f k = false) → n ≤ m → bsum f m = bsum f n
  | 0, _, hm => by
    have e : n = 0 := by omega
    rw [e]
  | m + 1, h, hm => by
    by_cases e : n = m + 1
    · rw [e]
    · show bsum f m + 2 ^ m * (f m).toNat = _
      rw [h m (by omega), bsum_more h (by omega)]
      simp
theorem rowsW_marks {ws : List Nat} (h : ws.length ≤ 14) : rowsW ws (cols ws) = marks ws := by
  unfold rowsW
  rw [← law_marks h, List.sum_append]
  have e1 := rowsA_bsum ws ws.length (Nat.le_refl _)
  rw [List.take_of_length_le (by rw [rowsA_len]; exact Nat.le_refl _)] at e1
  have e2 : bsum (fun k => ((ws[k]?).map oddB).getD false) 14 = bsum (fun k => ((ws[k]?).map oddB).getD false) ws.length := bsum_more (fun k hk => by rw [List.getElem?_eq_none_iff.mpr hk]; rfl) h
  rw [e1, e2, Nat.mul_comm (2 ^ 14)]
  simp
theorem cols_cols (ws : List Nat) : cols (ws ++ [cols ws]) = 0 := by
  show (ws ++ [cols ws]).foldl (fun a b => a ^^^ b) 0 = 0
  rw [List.foldl_append]
  show cols ws ^^^ cols ws = 0
  exact Nat.xor_self _
theorem bitsOf_zero : bitsOf 0 = [] := by decide
theorem mend_sealed {ws : List Nat} (h : ws.length ≤ 14) : mendR (ws ++ [cols ws, marks ws]) = some (ws, none) := by
  unfold mendR
  have e0 : (ws ++ [cols ws, marks ws]).length - 2 = ws.length := by simp
  have e1 : (ws ++ [cols ws, marks ws]).take ws.length = ws := by simp
  have e2 : (ws ++ [cols ws, marks ws]).take (ws.length + 1) = ws ++ [cols ws] := by
    rw [show ws ++ [cols ws, marks ws] = (ws ++ [cols ws]) ++ [marks ws] by simp]
    exact List.take_left' (by simp)
  have e3 : (ws ++ [cols ws, marks ws]).getD ws.length 0 = cols ws := by simp [List.getD_eq_getElem?_getD]
  have e4 : (ws ++ [cols ws, marks ws]).getD (ws.length + 1) 0 = marks ws := by
    rw [List.getD_eq_getElem?_getD, List.getElem?_append_right (by omega)]
    simp
  simp only [e0, e1, e2, e3, e4, cols_cols, rowsW_marks h, Nat.xor_self, bitsOf_zero]
  simp
theorem dpAll_nums {K : PySem.W.Frag} {H : Hp} : ∀ {xs : List V} {ns : List Nat}, DpAll K H xs (numsD ns) → xs = wsV ns
  | _, [], h => by cases h; rfl
  | _, n :: r, h => by
    cases h with
    | cons h1 h2 =>
      cases h1
      rw [dpAll_nums h2]
      rfl
theorem cut_neg {xs : List V} {k : Nat} (h : 0 < k) (hk : k ≤ xs.length) : cutV xs none (some (-(k : Int))) = xs.take (xs.length - k) := by
  unfold cutV
  have e : HT.sIx xs.length xs.length (some (-(k : Int))) = xs.length - k := by
    show (if -(k : Int) < 0 then (-(k : Int) + (xs.length : Int)).toNat else _) = _
    rw [if_pos (by omega)]
    omega
  rw [e, HT.sIx_none, List.drop_zero, Nat.sub_zero]
theorem sealD_dep (ws : List Nat) (h : ws.length ≤ 200) : depD 2 (.list (sealD ws)) = true := by
  refine Bool.and_eq_true_iff.mpr ⟨decide_eq_true (by unfold sealD; simp; omega), List.all_eq_true.mpr fun d hd => ?_⟩
  unfold sealD at hd
  obtain ⟨i, _, rfl⟩ := List.mem_map.mp hd
  refine Bool.and_eq_true_iff.mpr ⟨decide_eq_true ?_, List.all_eq_true.mpr fun d hd => ?_⟩
  · unfold numsD chunk
    simp
    omega
  · unfold numsD at hd
    obtain ⟨n, _, rfl⟩ := List.mem_map.mp hd
    rfl
theorem nums_dep (ws : List Nat) (h : ws.length ≤ 100) : depD 2 (.tuple [.tuple (numsD ws), .none]) = true := by
  have e : depD 1 (.tuple (numsD ws)) = true := by
    refine Bool.and_eq_true_iff.mpr ⟨decide_eq_true (by unfold numsD; simp; omega), List.all_eq_true.mpr fun d hd => ?_⟩
    unfold numsD at hd
    obtain ⟨n, _, rfl⟩ := List.mem_map.mp hd
    rfl
  show (decide _ && (depD 1 (.tuple (numsD ws)) && true)) = true
  rw [e]
  rfl
end Bm
namespace Bm
open PySem PySem.Spec PyProof.Rows L2
theorem bad_at {m : Nat} {x : V} {r : List V} : ∀ {a : List Nat} {i : Nat}, (∀ w ∈ a, w < 65536) → i + a.length ≤ m → (i + a.length = m ∨ isWhole x 0 65535 = false) → firstBad m (wsV a ++ x :: r) i = some (i + a.length)
  | [], i, _, h, hx => by
    show (if (decide (i = m) || !isWhole x 0 65535) = true then some i else _) = some i
    rw [if_pos]
    rcases hx with hx | hx
    · have hx : i = m := hx
      simp [hx]
    · simp [hx]
  | w :: a, i, hw, h, hx => by
    have h0 := hw w List.mem_cons_self
    have h : i + (a.length + 1) ≤ m := h
    have hx : i + (a.length + 1) = m ∨ isWhole x 0 65535 = false := hx
    show (if (decide (i = m) || !isWhole (.int ((w : Nat) : Int)) 0 65535) = true then some i else firstBad m (wsV a ++ x :: r) (i + 1)) = some (i + (a.length + 1))
    have e : isWhole (.int ((w : Nat) : Int)) 0 65535 = true := by
      show (decide ((0 : Int) ≤ (w : Int)) && decide ((w : Int) ≤ 65535)) = true
      simp only [Bool.and_eq_true, decide_eq_true_eq]
      omega
    rw [e, if_neg (by simp; omega), bad_at (fun y hy => hw y (List.mem_cons_of_mem _ hy)) (by omega) (by
      rcases hx with hx | hx
      · exact .inl (by omega)
      · exact .inr hx)]
    congr 1
    omega
end Bm
namespace Bm
open PySem PySem.Spec PyProof.Rows L2
theorem rep_zero (n : Nat) : (List.replicate n [V.int 0]).flatten = wsV (List.replicate n 0) := by
  induction n with
  | zero => rfl
  | succ n ih =>
    rw [List.replicate_succ, List.flatten_cons, ih, List.replicate_succ]
    rfl
theorem bad_zeros {n : Nat} (h : 201 ≤ n) : firstBad 200 (wsV (List.replicate n 0)) 0 = some 200 := by
  obtain ⟨k, rfl⟩ : ∃ k, n = 200 + (k + 1) := ⟨n - 201, by omega⟩
  have e : wsV (List.replicate (200 + (k + 1)) 0) = wsV (List.replicate 200 0) ++ (V.int 0 :: wsV (List.replicate k 0)) := by
    rw [← List.replicate_append_replicate]
    unfold wsV
    rw [List.map_append]
    rfl
  rw [e, bad_at (fun w hw => by rw [List.eq_of_mem_replicate hw]; decide) (by simp) (.inl (by simp))]
  simp
theorem pick4 {r : Int} (h0 : 0 ≤ r) (h1 : r < 4) : ∃ f : Nat, atI [V.int 65536, V.int 2, V.int 65536, V.int 256] r = some (.int ((f : Nat) : Int)) ∧ 1 ≤ f ∧ f ≤ 65536 := by
  have h : r = 0 ∨ r = 1 ∨ r = 2 ∨ r = 3 := by omega
  rcases h with rfl | rfl | rfl | rfl
  · exact ⟨65536, rfl, by decide, by decide⟩
  · exact ⟨2, rfl, by decide, by decide⟩
  · exact ⟨65536, rfl, by decide, by decide⟩
  · exact ⟨256, rfl, by decide, by decide⟩
theorem pick3 {a b c : V} {r : Int} (h0 : 0 ≤ r) (h1 : r < 3) : ∃ v, atI [a, b, c] r = some v ∧ (v = a ∨ v = b ∨ v = c) := by
  have h : r = 0 ∨ r = 1 ∨ r = 2 := by omega
  rcases h with rfl | rfl | rfl
  · exact ⟨a, rfl, .inl rfl⟩
  · exact ⟨b, rfl, .inr (.inl rfl)⟩
  · exact ⟨c, rfl, .inr (.inr rfl)⟩
end Bm


set_option Elab.async false
set_option linter.all false
set_option maxRecDepth 100000
set_option maxHeartbeats 4000000
set_option autoImplicit false
namespace Bm
open PySem PySem.Spec PyProof.Rows L2
/-! ### a def whose code object is known -/
theorem okC {P : Program} {w : World} {K : PySem.W.Frag} {mg : Str → Option Value} {base : Heap} {CX : CXT} {x qual : Str} {params : Arguments} {body : List Stmt} {scope : Scope} {dvs : List V} {kws : List (Str × V)} {fd : FuncData} {N ps : List Str} {k : Nat} {sp : Sp} (p : He.Defn)
    (F : FunD K x qual params body scope dvs kws (He.fAd K p) fd) (S : FnScope N ps scope) (len : ∀ vs H Q E, sp vs H Q E → vs.length = ps.length)
    (hbody : ∀ (A : Around) (outer : List Env) (s : Shared) (H : Hp) (vs : List V) (Q : VK) (E : XK), Room k (A.deeper (envOfC qual scope s.heap.objs.size (He.fAd K p) (.ref (He.codeOf K p)))) → sp vs H Q E →
      ∃ t, PSs (cxOf CX P w K mg base N qual scope (He.fAd K p) (.ref (He.codeOf K p)) A outer s H E) body t ∧ t { nx := fun _ H' => Q .non H', rt := Q } (start N vs) H) : FnOk P w K mg base CX (k + 1) (He.fAd K p) fd ps sp := by
  obtain ⟨oc, od, dV, kV, doc, pm, an, cdv, ct, osl, rfl, lk, hcd, _, _⟩ := F.ex
  obtain ⟨c, rfl⟩ := He.codeIn_ref hcd
  have e : He.codeOf K p = c := He.codeOf_eq lk rfl
  rw [e] at hbody
  exact fn_of lk hcd S len hbody
/-! ### a law's heap: draws and tables of lambdas -/
/-- all is kept but the state of the draws and the tables -/
def Kp (st : Addr) (H H' : Hp) : Prop := ∀ a o, a ≠ st → (∀ ps, o ≠ .tbl ps) → H a = some o → H' a = some o
structure Gd (K : PySem.W.Frag) (st sc : Addr) (ns : List Int) (T : List (Addr × Str)) (H : Hp) : Prop where
  st : StAt K st sc ns H
  tab : LamX.Tabs T H
section
variable {K : PySem.W.Frag} {st sc : Addr} {ns : List Int} {T : List (Addr × Str)} {H H1 H2 : Hp}
theorem Kp.refl : Kp st H H := fun _ _ _ _ h => h
theorem Kp.trans (a : Kp st H H1) (b : Kp st H1 H2) : Kp st H H2 := fun c o n1 n2 h => b c o n1 n2 (a c o n1 n2 h)
theorem Kp.same (e : Same H H1) : Kp st H H1 := fun a o _ _ h => e a o h
theorem Kp.ext (e : LamX.ExtN H H1) : Kp st H H1 := fun a o _ n h => e a o h n
theorem Kept.kp (k : Kept K st sc ns H H1) : Kp st H H1 := fun a o n _ h => k.keep a o n h
theorem StAt.same (s : StAt K st sc ns H) (e : Same H H1) : StAt K st sc ns H1 := by
  obtain ⟨p, m, c, h, h0, h1, h2, h3, h4⟩ := s
  exact ⟨p, m, c, e _ _ h, h0, h1, h2, h3, e.seq h4⟩
theorem StAt.ext (s : StAt K st sc ns H) (e : LamX.ExtN H H1) : StAt K st sc ns H1 := by
  obtain ⟨p, m, c, h, h0, h1, h2, h3, h4⟩ := s
  refine ⟨p, m, c, e _ _ h (fun _ z => by cases z), h0, h1, h2, h3, ?_⟩
  rcases h4 with (h4 | ⟨o, h4⟩) | h4
  · exact .inl (.inl (e _ _ h4 fun _ z => by cases z))
  · exact .inl (.inr ⟨o, e _ _ h4 fun _ z => by cases z⟩)
  · exact .inr h4
theorem Gd.same (g : Gd K st sc ns T H) (e : Same H H1) : Gd K st sc ns T H1 := ⟨g.st.same e, g.tab.ext e⟩
theorem Gd.lam (g : Gd K st sc ns T H) (e : LamX.ExtN H H1) (t : LamX.Tabs T H1) : Gd K st sc ns T H1 := ⟨g.st.ext e, t⟩
theorem Gd.kept (g : Gd K st sc ns T H) (k : Kept K st sc ns H H1) : Gd K st sc ns T H1 := by
  obtain ⟨p, m, c, h, _⟩ := g.st
  refine ⟨k.st, fun q hq => ?_⟩
  obtain ⟨ps, a1, a2, a3⟩ := g.tab q hq
  have ne : ∀ {b : Addr} {o : HO}, H b = some o → (∀ xs, o ≠ .lst xs) → b ≠ st := fun {b o} e n z => by
    rw [z, h] at e
    exact n _ (Option.some.inj e).symm
  refine ⟨ps, k.keep _ _ (ne a1 fun _ z => by cases z) a1, a2, fun pos cv hc => ?_⟩
  obtain ⟨c', e1, e2⟩ := a3 pos cv hc
  refine ⟨c', e1, k.keep _ _ (ne e2 fun xs z => ?_) e2⟩
  unfold LamX.CodeO at z
  cases z
/-- a list that the draws don't touch -/
theorem Kp.lst {a : Addr} {xs : List V} (k : Kp st H H1) (h : H a = some (.lst xs)) (n : a ≠ st) : H1 a = some (.lst xs) := k a _ n (fun _ z => by cases z) h
theorem Kp.tup {a : Addr} {xs : List V} (k : Kp st H H1) (h : H a = some (.tup xs)) (g : StAt K st sc ns H) : H1 a = some (.tup xs) := by
  obtain ⟨p, m, c, h', _⟩ := g
  refine k a _ (fun z => ?_) (fun _ z => by cases z) h
  rw [z, h'] at h
  cases h
end
end Bm
namespace Bm
open PySem PySem.Spec PyProof.Rows L2
section
variable {K : PySem.W.Frag} {st sc D : Addr} {ns : List Int} {T : List (Addr × Str)} {H H0 H1 H2 : Hp} {xs ys : List V}
theorem Kp.mut {o : HO} (k : Kp st H0 H) (n : H0 D = none) : Kp st H0 (upd H D o) := fun a u n1 n2 h => by
  rw [upd_ne (ne_of_none h n)]
  exact k a u n1 n2 h
/-- a list made since H0 may change -/
theorem Gd.mut (g : Gd K st sc ns T H) (g0 : Gd K st sc ns T H0) (n : H0 D = none) (h : H D = some (.lst xs)) : Gd K st sc ns T (upd H D (.lst ys)) := by
  obtain ⟨p0, m0, c0, h0, _, _, _, _, hs0⟩ := g0.st
  obtain ⟨p, m, c, h1, a0, a1, a2, a3, hs⟩ := g.st
  have nst : st ≠ D := ne_of_none h0 n
  refine ⟨⟨p, m, c, by rw [upd_ne nst]; exact h1, a0, a1, a2, a3, ?_⟩, fun q hq => ?_⟩
  · rcases hs0 with hs0 | hs0
    · have nsc : sc ≠ D := by
        rcases hs0 with hs0 | ⟨o, hs0⟩
        · exact ne_of_none hs0 n
        · exact ne_of_none hs0 n
      rcases hs with (hs | ⟨o, hs⟩) | hs
      · exact .inl (.inl (by rw [upd_ne nsc]; exact hs))
      · exact .inl (.inr ⟨o, by rw [upd_ne nsc]; exact hs⟩)
      · exact .inr hs
    · exact .inr hs0
  · obtain ⟨ps, a1, a2, a3⟩ := g.tab q hq
    have ne : ∀ {b : Addr} {o : HO}, H b = some o → (∀ xs, o ≠ .lst xs) → b ≠ D := fun {b o} e nn z => by
      rw [z, h] at e
      exact nn _ (Option.some.inj e).symm
    refine ⟨ps, by rw [upd_ne (ne a1 fun _ z => by cases z)]; exact a1, a2, fun pos cv hc => ?_⟩
    obtain ⟨c', e1, e2⟩ := a3 pos cv hc
    refine ⟨c', e1, ?_⟩
    rw [upd_ne (ne e2 fun xs z => by unfold LamX.CodeO at z; cases z)]
    exact e2
/-- what is new is not the state of the draws -/
theorem Gd.ne (g : Gd K st sc ns T H) {p : Addr} (n : H p = none) : p ≠ st := by
  obtain ⟨_, _, _, h, _⟩ := g.st
  exact (ne_of_none h n).symm
theorem Kp.free (g : Gd K st sc ns T H1) (k : Kp st H H1) {p : Addr} (n : H1 p = none) {o : HO} (h : H p = some o) (no : ∀ ps, o ≠ .tbl ps) : False := by
  by_cases e : p = st
  · rw [e] at n
    obtain ⟨_, _, _, h', _⟩ := g.st
    rw [h'] at n
    cases n
  · rw [k p o e no h] at n
    cases n
end
theorem wsV_inj : ∀ {a b : List Nat}, wsV a = wsV b → a = b
  | [], [], _ => rfl
  | [], _ :: _, h => by cases h
  | _ :: _, [], h => by cases h
  | x :: a, y :: b, h => by
    have h : V.int ((x : Nat) : Int) :: wsV a = V.int ((y : Nat) : Int) :: wsV b := h
    injection h with h1 h2
    have h3 : ((x : Nat) : Int) = ((y : Nat) : Int) := V.int.inj h1
    rw [wsV_inj h2, show x = y by omega]
end Bm


set_option Elab.async false
set_option linter.all false
set_option maxRecDepth 100000
set_option maxHeartbeats 4000000
set_option autoImplicit false
namespace Bm
open PySem PySem.Spec PyProof.Rows L2
/-! ### bits turned in a block -/
theorem xor_halves (a b : Nat) : a ^^^ b = 2 * (a / 2 ^^^ b / 2) + (a + b) % 2 := by
  have h1 : (a ^^^ b) / 2 = a / 2 ^^^ b / 2 := Nat.xor_div_two
  have h2 : (a ^^^ b) % 2 = (a + b) % 2 := by
    have ha := Nat.mod_two_eq_zero_or_one a
    have hb := Nat.mod_two_eq_zero_or_one b
    have e := Nat.xor_mod_two_pow (a := a) (b := b) (n := 1)
    rw [Nat.pow_one] at e
    rw [e]
    rcases ha with ha | ha <;> rcases hb with hb | hb <;> rw [ha, hb, Nat.add_mod, ha, hb] <;> rfl
  omega
theorem xor_nil {a b : Nat} (h : a ^^^ b = 0) : a = b := by
  have e : (a ^^^ b) ^^^ b = a := by rw [Nat.xor_assoc, Nat.xor_self, Nat.xor_zero]
  rw [← e, h, Nat.zero_xor]
theorem xor_pow : ∀ (k w : Nat), w ^^^ 2 ^ k = if w.testBit k = true then w - 2 ^ k else w + 2 ^ k
  | 0, w => by
    rw [xor_halves, Nat.testBit_zero]
    have e : w / 2 ^^^ 2 ^ 0 / 2 = w / 2 := by rw [show 2 ^ 0 / 2 = 0 from rfl, Nat.xor_zero]
    rw [e]
    by_cases h : w % 2 = 1
    · rw [if_pos (by simpa using h)]
      omega
    · rw [if_neg (by simpa using h)]
      omega
  | k + 1, w => by
    have e1 : (2 : Nat) ^ (k + 1) = 2 * 2 ^ k := by rw [Nat.pow_succ, Nat.mul_comm]
    have e2 : (2 : Nat) ^ (k + 1) / 2 = 2 ^ k := by omega
    rw [xor_halves, e2, xor_pow k (w / 2), Nat.testBit_succ]
    by_cases h : (w / 2).testBit k = true
    · rw [if_pos h, if_pos h]
      have hw : 2 ^ k ≤ w / 2 := Nat.ge_two_pow_of_testBit h
      omega
    · rw [if_neg h, if_neg h]
      omega
theorem oddB_xor (a b : Nat) : oddB (a ^^^ b) = (oddB a ^^ oddB b) := by
  induction a using Nat.strongRecOn generalizing b with
  | _ a ih =>
    by_cases ha : a = 0
    · rw [ha, Nat.zero_xor, oddB_zero, Bool.false_xor]
    · have st : ∀ n, oddB n = ((n % 2 == 1) ^^ oddB (n / 2)) := fun n => by
        by_cases h : n = 0
        · rw [h]
          simp [oddB_zero]
        · exact oddB_step h
      rw [st (a ^^^ b), st a, st b]
      have e1 : (a ^^^ b) / 2 = a / 2 ^^^ b / 2 := Nat.xor_div_two
      have e2 : (a ^^^ b) % 2 = (a + b) % 2 := by
        have := xor_halves a b
        omega
      rw [e1, e2, ih (a / 2) (by omega)]
      have ha := Nat.mod_two_eq_zero_or_one a
      have hb := Nat.mod_two_eq_zero_or_one b
      rcases ha with ha | ha <;> rcases hb with hb | hb <;> rw [Nat.add_mod, ha, hb] <;> cases oddB (a / 2) <;> cases oddB (b / 2) <;> rfl
theorem oddB_pow : ∀ k : Nat, oddB (2 ^ k) = true
  | 0 => by rw [Nat.pow_zero, oddB_step (by decide)]; simp [oddB_zero]
  | k + 1 => by
    have e1 : (2 : Nat) ^ (k + 1) = 2 * 2 ^ k := by rw [Nat.pow_succ, Nat.mul_comm]
    have hp : 0 < 2 ^ k := Nat.pow_pos (by decide)
    rw [oddB_step (by omega), e1, Nat.mul_mod_right, Nat.mul_div_cancel_left _ (by decide), oddB_pow k]
    rfl
theorem oddB_turn (w k : Nat) : oddB (w ^^^ 2 ^ k) = !oddB w := by
  rw [oddB_xor, oddB_pow]
  cases oddB w <;> rfl
def flipB (b : List Nat) (i k : Nat) : List Nat := b.set i (b.getD i 0 ^^^ 2 ^ k)
theorem flipB_len (b : List Nat) (i k : Nat) : (flipB b i k).length = b.length := List.length_set
theorem flipB_get (b : List Nat) (i k j : Nat) (h : i < b.length) : (flipB b i k).getD j 0 = if j = i then b.getD i 0 ^^^ 2 ^ k else b.getD j 0 := by
  unfold flipB
  rw [List.getD_eq_getElem?_getD, List.getElem?_set]
  by_cases e : i = j
  · subst e
    rw [if_pos rfl, if_pos h, if_pos rfl]
    rfl
  · rw [if_neg e, if_neg (fun z => e z.symm), List.getD_eq_getElem?_getD]
theorem flipB_lt {b : List Nat} {i k : Nat} (h : ∀ w ∈ b, w < 65536) (hk : k < 16) (hi : i < b.length) : ∀ w ∈ flipB b i k, w < 65536 := fun w hw => by
  rcases List.mem_or_eq_of_mem_set hw with h1 | h1
  · exact h w h1
  · rw [h1]
    refine Nat.xor_lt_two_pow (n := 16) ?_ (Nat.pow_lt_pow_right (by decide) hk)
    rw [List.getD_eq_getElem?_getD, List.getElem?_eq_getElem hi]
    exact h _ (List.getElem_mem hi)
theorem foldl_xor_acc : ∀ (ws : List Nat) (a x : Nat), ws.foldl (fun a b => a ^^^ b) (a ^^^ x) = ws.foldl (fun a b => a ^^^ b) a ^^^ x
  | [], _, _ => rfl
  | w :: r, a, x => by
    show r.foldl _ (a ^^^ x ^^^ w) = r.foldl _ (a ^^^ w) ^^^ x
    rw [Nat.xor_assoc, Nat.xor_comm x w, ← Nat.xor_assoc, foldl_xor_acc r]
theorem foldl_xor_set : ∀ (ws : List Nat) (i a x : Nat), i < ws.length → (ws.set i (ws.getD i 0 ^^^ x)).foldl (fun a b => a ^^^ b) a = ws.foldl (fun a b => a ^^^ b) a ^^^ x
  | [], _, _, _, h => by cases h
  | w :: r, 0, a, x, _ => by
    show r.foldl _ (a ^^^ (w ^^^ x)) = r.foldl _ (a ^^^ w) ^^^ x
    rw [← Nat.xor_assoc, foldl_xor_acc]
  | w :: r, i + 1, a, x, h => by
    show (r.set i (r.getD i 0 ^^^ x)).foldl _ (a ^^^ w) = _
    exact foldl_xor_set r i (a ^^^ w) x (Nat.lt_of_succ_lt_succ h)
theorem cols_flip (ws : List Nat) (i k : Nat) (h : i < ws.length) : cols (flipB ws i k) = cols ws ^^^ 2 ^ k := foldl_xor_set ws i 0 _ h
theorem rowsW_bit {ws : List Nat} {c : Nat} (h : ws.length ≤ 14) (j : Nat) : (rowsW ws c).testBit j = if j = 14 then oddB c else ((ws[j]?).map oddB).getD false := by
  have e : rowsW ws c = bsum (fun k => if k = 14 then oddB c else ((ws[k]?).map oddB).getD false) 15 := by
    unfold rowsW
    rw [List.sum_append]
    have e1 := rowsA_bsum ws ws.length (Nat.le_refl _)
    rw [List.take_of_length_le (by rw [rowsA_len]; exact Nat.le_refl _)] at e1
    have e2 : bsum (fun k => ((ws[k]?).map oddB).getD false) 14 = bsum (fun k => ((ws[k]?).map oddB).getD false) ws.length := bsum_more (fun k hk => by rw [List.getElem?_eq_none_iff.mpr hk]; rfl) h
    show _ = bsum _ 14 + 2 ^ 14 * (if 14 = 14 then oddB c else _).toNat
    rw [if_pos rfl, e1, ← e2, Nat.mul_comm (2 ^ 14), bsum_congr (g := fun k => if k = 14 then oddB c else ((ws[k]?).map oddB).getD false) (fun k hk => by rw [if_neg (by omega)])]
    simp
  rw [e, bsum_bit]
  by_cases hj : j = 14
  · subst hj
    simp
  · rw [if_neg hj]
    by_cases hj2 : j < 15
    · simp [hj2]
    · have h2 : ws[j]? = none := List.getElem?_eq_none_iff.mpr (by omega)
      simp [hj2, h2]
theorem rowsW_flip {ws : List Nat} {c i k : Nat} (h : ws.length ≤ 14) (hi : i < ws.length) : rowsW (flipB ws i k) c = rowsW ws c ^^^ 2 ^ i := by
  apply Nat.eq_of_testBit_eq
  intro j
  rw [Nat.testBit_xor, rowsW_bit (by rw [flipB_len]; exact h), rowsW_bit h, Nat.testBit_two_pow]
  by_cases h14 : j = 14
  · rw [if_pos h14, if_pos h14, decide_eq_false (by omega), Bool.xor_false]
  · rw [if_neg h14, if_neg h14]
    unfold flipB
    rw [List.getElem?_set]
    by_cases e : i = j
    · subst e
      rw [if_pos rfl, if_pos hi, decide_eq_true rfl, List.getD_eq_getElem?_getD, List.getElem?_eq_getElem hi]
      show oddB (ws[i] ^^^ 2 ^ k) = (oddB ws[i] ^^ true)
      rw [oddB_turn]
      cases oddB ws[i] <;> rfl
    · rw [if_neg e, decide_eq_false e, Bool.xor_false]
theorem rowsW_turn {ws : List Nat} {c k : Nat} (h : ws.length ≤ 14) : rowsW ws (c ^^^ 2 ^ k) = rowsW ws c ^^^ 2 ^ 14 := by
  apply Nat.eq_of_testBit_eq
  intro j
  rw [Nat.testBit_xor, rowsW_bit h, rowsW_bit h, Nat.testBit_two_pow]
  by_cases h14 : j = 14
  · rw [if_pos h14, if_pos h14, decide_eq_true h14.symm, oddB_turn]
    cases oddB c <;> rfl
  · rw [if_neg h14, if_neg h14, decide_eq_false (fun z => h14 z.symm), Bool.xor_false]
def cSyn (b : List Nat) : Nat := cols (b.take (b.length - 2 + 1))
def rSyn (b : List Nat) : Nat := rowsW (b.take (b.length - 2)) (b.getD (b.length - 2) 0) ^^^ b.getD (b.length - 2 + 1) 0
def rBit (n i k : Nat) : Nat := if i < n then i else if i = n then 14 else k
theorem take_flip (b : List Nat) (m i k : Nat) (h : i < m) : (flipB b i k).take m = flipB (b.take m) i k := by
  unfold flipB
  have e : (b.take m).getD i 0 = b.getD i 0 := by
    rw [List.getD_eq_getElem?_getD, List.getD_eq_getElem?_getD, List.getElem?_take, if_pos h]
  rw [e, List.take_set]
theorem take_flip_out (b : List Nat) (m i k : Nat) (h : m ≤ i) : (flipB b i k).take m = b.take m := by
  unfold flipB
  rw [List.take_set, List.set_eq_of_length_le (by rw [List.length_take]; omega)]
theorem cSyn_flip {b : List Nat} {i k : Nat} (h3 : 3 ≤ b.length) (hi : i < b.length) : cSyn (flipB b i k) = cSyn b ^^^ (if i ≤ b.length - 2 then 2 ^ k else 0) := by
  unfold cSyn
  rw [flipB_len]
  by_cases h : i ≤ b.length - 2
  · rw [if_pos h, take_flip _ _ _ _ (by omega), cols_flip _ _ _ (by rw [List.length_take]; omega)]
  · rw [if_neg h, take_flip_out _ _ _ _ (by omega), Nat.xor_zero]
theorem rSyn_flip {b : List Nat} {i k : Nat} (h3 : 3 ≤ b.length) (h16 : b.length ≤ 16) (hi : i < b.length) : rSyn (flipB b i k) = rSyn b ^^^ 2 ^ rBit (b.length - 2) i k := by
  unfold rSyn rBit
  rw [flipB_len, flipB_get _ _ _ _ hi, flipB_get _ _ _ _ hi]
  by_cases h : i < b.length - 2
  · rw [if_pos h, take_flip _ _ _ _ h, if_neg (by omega), if_neg (by omega), rowsW_flip (by rw [List.length_take]; omega) (by rw [List.length_take]; omega)]
    rw [Nat.xor_assoc, Nat.xor_comm (2 ^ i), ← Nat.xor_assoc]
  · rw [if_neg h, take_flip_out _ _ _ _ (by omega)]
    by_cases h2 : i = b.length - 2
    · rw [if_pos h2, if_pos h2.symm, if_neg (by omega), h2, rowsW_turn (by rw [List.length_take]; omega)]
      rw [Nat.xor_assoc, Nat.xor_comm (2 ^ 14), ← Nat.xor_assoc]
    · have e : i = b.length - 2 + 1 := by omega
      rw [if_neg h2, if_neg (fun z => h2 z.symm), if_pos e.symm, e, Nat.xor_assoc]
/-! ### the bits told -/
theorem mem_bitsOf {n k : Nat} : k ∈ bitsOf n ↔ n.testBit k = true := by
  unfold bitsOf
  rw [List.mem_filter, List.mem_range]
  refine ⟨fun h => h.2, fun h => ⟨?_, h⟩⟩
  have h1 := Nat.ge_two_pow_of_testBit h
  refine Nat.lt_of_not_le fun hle => ?_
  have h2 : n < 2 ^ Builtin.Int.intBits ((n : Nat) : Int) := by
    have h := intBits_le_iff.mp (Nat.le_refl (Builtin.Int.intBits ((n : Nat) : Int)))
    simpa using h
  have h3 : (2 : Nat) ^ Builtin.Int.intBits ((n : Nat) : Int) ≤ 2 ^ k := Nat.pow_le_pow_right (by decide) hle
  omega
theorem nodup_bitsOf (n : Nat) : (bitsOf n).Nodup := List.Pairwise.filter _ List.nodup_range
theorem bitsOf_pow (k : Nat) : bitsOf (2 ^ k) = [k] := by
  have hm : ∀ j, j ∈ bitsOf (2 ^ k) ↔ j = k := fun j => by
    rw [mem_bitsOf, Nat.testBit_two_pow, decide_eq_true_iff]
    exact ⟨fun h => h.symm, fun h => h.symm⟩
  have nd := nodup_bitsOf (2 ^ k)
  cases q : bitsOf (2 ^ k) with
  | nil =>
    have := (hm k).mpr rfl
    rw [q] at this
    cases this
  | cons a r =>
    rw [q] at hm nd
    have ha := (hm a).mp List.mem_cons_self
    cases r with
    | nil => rw [ha]
    | cons b r =>
      have hb := (hm b).mp (List.mem_cons_of_mem _ List.mem_cons_self)
      rw [ha, hb] at nd
      simp at nd
theorem bitsOf_nil {n : Nat} : bitsOf n = [] ↔ n = 0 := by
  refine ⟨fun h => Nat.eq_of_testBit_eq fun k => ?_, fun h => by rw [h]; exact bitsOf_zero⟩
  rw [Nat.zero_testBit]
  cases q : n.testBit k with
  | false => rfl
  | true =>
    have := mem_bitsOf.mpr q
    rw [h] at this
    cases this
theorem bitsOf_one {n k : Nat} (h : bitsOf n = [k]) : n = 2 ^ k := by
  apply Nat.eq_of_testBit_eq
  intro j
  rw [Nat.testBit_two_pow]
  cases q : n.testBit j with
  | false =>
    refine (decide_eq_false fun e => ?_).symm
    have : k ∈ bitsOf n := by rw [h]; exact List.mem_singleton.mpr rfl
    rw [mem_bitsOf, e, q] at this
    cases this
  | true =>
    have := mem_bitsOf.mpr q
    rw [h] at this
    exact (decide_eq_true (List.mem_singleton.mp this).symm).symm
theorem bitsOf_two {a b : Nat} (h : a ≠ b) : 2 ≤ (bitsOf (2 ^ a ^^^ 2 ^ b)).length := by
  have ha : a ∈ bitsOf (2 ^ a ^^^ 2 ^ b) := by
    rw [mem_bitsOf, Nat.testBit_xor, Nat.testBit_two_pow, Nat.testBit_two_pow, decide_eq_true rfl, decide_eq_false (fun z => h z.symm)]
    rfl
  have hb : b ∈ bitsOf (2 ^ a ^^^ 2 ^ b) := by
    rw [mem_bitsOf, Nat.testBit_xor, Nat.testBit_two_pow, Nat.testBit_two_pow, decide_eq_true rfl, decide_eq_false h]
    rfl
  cases q : bitsOf (2 ^ a ^^^ 2 ^ b) with
  | nil =>
    rw [q] at ha
    cases ha
  | cons x r =>
    cases r with
    | nil =>
      rw [q] at ha hb
      exact absurd ((List.mem_singleton.mp ha).trans (List.mem_singleton.mp hb).symm) h
    | cons y r => exact Nat.le_add_left _ _
/-! ### mended, by its two differences -/
def sealB (ws : List Nat) : List Nat := ws ++ [cols ws, marks ws]
def mendC (n : Nat) (ws cs rs : List Nat) : Option (List Nat × Option (Nat × Nat)) :=
  if rs = [] ∧ cs = [] then some (ws, none) else if rs.length ≠ 1 ∨ 1 < cs.length then none else if cs = [] then some (ws, some (n + 1, rs.getD 0 0))
  else if rs.getD 0 0 < n then some (ws.set (rs.getD 0 0) (ws.getD (rs.getD 0 0) 0 ^^^ 1 * 2 ^ cs.getD 0 0), some (rs.getD 0 0, cs.getD 0 0))
  else if rs.getD 0 0 ≠ 14 then none else some (ws, some (n, cs.getD 0 0))
theorem mendR_eq (b : List Nat) : mendR b = mendC (b.length - 2) (b.take (b.length - 2)) (bitsOf (cSyn b)) (bitsOf (rSyn b)) := rfl
theorem sealB_len (ws : List Nat) : (sealB ws).length = ws.length + 2 := by simp [sealB]
theorem sealB_take (ws : List Nat) : (sealB ws).take ws.length = ws := by simp [sealB]
theorem sealB_syn {ws : List Nat} (h : ws.length ≤ 14) : cSyn (sealB ws) = 0 ∧ rSyn (sealB ws) = 0 := by
  have e0 : (sealB ws).length - 2 = ws.length := by rw [sealB_len, Nat.add_sub_cancel]
  unfold cSyn rSyn
  rw [e0, sealB_take]
  have e2 : (sealB ws).take (ws.length + 1) = ws ++ [cols ws] := by
    rw [show sealB ws = (ws ++ [cols ws]) ++ [marks ws] by simp [sealB]]
    exact List.take_left' (by simp)
  have e3 : (sealB ws).getD ws.length 0 = cols ws := by simp [sealB, List.getD_eq_getElem?_getD]
  have e4 : (sealB ws).getD (ws.length + 1) 0 = marks ws := by
    unfold sealB
    rw [List.getD_eq_getElem?_getD, List.getElem?_append_right (by omega)]
    simp
  rw [e2, e3, e4]
  exact ⟨cols_cols ws, by rw [rowsW_marks h, Nat.xor_self]⟩
theorem flip_flip (b : List Nat) (i k : Nat) (h : i < b.length) : flipB (flipB b i k) i k = b := by
  unfold flipB
  have e : (b.set i (b.getD i 0 ^^^ 2 ^ k)).getD i 0 = b.getD i 0 ^^^ 2 ^ k := by
    rw [List.getD_eq_getElem?_getD, List.getElem?_set, if_pos rfl, if_pos h]
    rfl
  rw [e, Nat.xor_assoc, Nat.xor_self, Nat.xor_zero, List.set_set, List.getD_eq_getElem?_getD, List.getElem?_eq_getElem h]
  exact List.set_getElem_self h
/-- one bit turned: it is found -/
theorem mend_flip {ws : List Nat} {i k : Nat} (h1 : 1 ≤ ws.length) (h : ws.length ≤ 14) (hi : i < ws.length + 2) : mendR (flipB (sealB ws) i k) = some (ws, some (i, k)) := by
  have hl := sealB_len ws
  have hi2 : i < (sealB ws).length := by omega
  obtain ⟨s1, s2⟩ := sealB_syn h
  have e0 : (flipB (sealB ws) i k).length - 2 = ws.length := by rw [flipB_len, hl, Nat.add_sub_cancel]
  have e0' : (sealB ws).length - 2 = ws.length := by rw [hl, Nat.add_sub_cancel]
  rw [mendR_eq, e0, cSyn_flip (by omega) hi2, rSyn_flip (by omega) (by omega) hi2, s1, s2, Nat.zero_xor, Nat.zero_xor, e0', bitsOf_pow]
  unfold rBit
  by_cases ha : i < ws.length
  · rw [if_pos (by omega), if_pos ha, bitsOf_pow, take_flip _ _ _ _ ha, sealB_take]
    have e5 : flipB (flipB ws i k) i k = ws := flip_flip ws i k ha
    unfold flipB at e5
    have e6 : (flipB ws i k).set i ((flipB ws i k).getD i 0 ^^^ 1 * 2 ^ k) = ws := by
      rw [Nat.one_mul]
      exact e5
    unfold mendC
    simp [ha]
    simpa using e6
  · rw [take_flip_out _ _ _ _ (by omega), sealB_take, if_neg ha]
    by_cases hb : i = ws.length
    · rw [if_pos (by omega), if_pos hb, bitsOf_pow, hb]
      have h14 : ¬ 14 < ws.length := by omega
      unfold mendC
      simp [h14]
    · have e : i = ws.length + 1 := by omega
      rw [if_neg (by omega), if_neg hb, bitsOf_zero, e]
      unfold mendC
      simp
/-- two bits turned: none is told -/
theorem mend_flip2 {ws : List Nat} {i k j l : Nat} (h1 : 1 ≤ ws.length) (h : ws.length ≤ 14) (hi : i < ws.length + 2) (hj : j < ws.length + 2) (hn : ¬ (i = j ∧ k = l)) : mendR (flipB (flipB (sealB ws) i k) j l) = none := by
  have hl := sealB_len ws
  have hi2 : i < (sealB ws).length := by omega
  have hl2 := flipB_len (sealB ws) i k
  have hj2 : j < (flipB (sealB ws) i k).length := by omega
  obtain ⟨s1, s2⟩ := sealB_syn h
  have e0 : (flipB (flipB (sealB ws) i k) j l).length - 2 = ws.length := by rw [flipB_len, flipB_len, hl, Nat.add_sub_cancel]
  have e0' : (sealB ws).length - 2 = ws.length := by rw [hl, Nat.add_sub_cancel]
  rw [mendR_eq, e0, cSyn_flip (by omega) hj2, rSyn_flip (by omega) (by omega) hj2, hl2, cSyn_flip (by omega) hi2, rSyn_flip (by omega) (by omega) hi2, s1, s2, Nat.zero_xor, Nat.zero_xor, e0']
  by_cases hr : rBit ws.length i k = rBit ws.length j l
  · -- the rows say nothing
    rw [hr, Nat.xor_self, bitsOf_zero]
    have hc : ¬ ((if i ≤ ws.length then 2 ^ k else 0) ^^^ (if j ≤ ws.length then 2 ^ l else 0) = 0) := by
      unfold rBit at hr
      by_cases a1 : i ≤ ws.length <;> by_cases a2 : j ≤ ws.length
      · rw [if_pos a1, if_pos a2]
        have e : i = j := by
          by_cases b1 : i < ws.length <;> by_cases b2 : j < ws.length
          · rw [if_pos b1, if_pos b2] at hr
            exact hr
          · rw [if_pos b1, if_neg b2, if_pos (by omega)] at hr
            omega
          · rw [if_neg b1, if_pos b2, if_pos (by omega)] at hr
            omega
          · omega
        have hkl : k ≠ l := fun z => hn ⟨e, z⟩
        intro z
        have := bitsOf_two hkl
        rw [z, bitsOf_zero] at this
        cases this
      · rw [if_pos a1, if_neg a2, Nat.xor_zero]
        have : 0 < 2 ^ k := Nat.pow_pos (by decide)
        omega
      · rw [if_neg a1, if_pos a2, Nat.zero_xor]
        have : 0 < 2 ^ l := Nat.pow_pos (by decide)
        omega
      · rw [if_neg (by omega), if_neg (by omega), if_neg (by omega), if_neg (by omega)] at hr
        exact absurd ⟨by omega, hr⟩ hn
    have hc2 : ¬ (bitsOf ((if i ≤ ws.length then 2 ^ k else 0) ^^^ (if j ≤ ws.length then 2 ^ l else 0)) = []) := fun z => hc (bitsOf_nil.mp z)
    generalize bitsOf ((if i ≤ ws.length then 2 ^ k else 0) ^^^ (if j ≤ ws.length then 2 ^ l else 0)) = cs at hc2
    unfold mendC
    simp [hc2]
  · have h2 := bitsOf_two hr
    generalize bitsOf (2 ^ rBit ws.length i k ^^^ 2 ^ rBit ws.length j l) = rs at h2
    have n1 : ¬ rs = [] := fun z => by rw [z] at h2; cases h2
    have n2 : rs.length ≠ 1 := by omega
    unfold mendC
    simp [n1, n2]
/-- what is whole is sealed -/
theorem sealed_of {b : List Nat} (h3 : 2 ≤ b.length) (h16 : b.length ≤ 16) (hc : cSyn b = 0) (hr : rSyn b = 0) : b = sealB (b.take (b.length - 2)) := by
  have hl : (b.take (b.length - 2)).length = b.length - 2 := by rw [List.length_take]; omega
  have e : ∃ ws c m, b = ws ++ [c, m] := by
    refine ⟨b.take (b.length - 2), b.getD (b.length - 2) 0, b.getD (b.length - 1) 0, ?_⟩
    have e1 : b.drop (b.length - 2) = [b.getD (b.length - 2) 0, b.getD (b.length - 1) 0] := by
      rw [List.getD_eq_getElem?_getD, List.getD_eq_getElem?_getD, List.getElem?_eq_getElem (show b.length - 2 < b.length by omega), List.getElem?_eq_getElem (show b.length - 1 < b.length by omega)]
      rw [List.drop_eq_getElem_cons (show b.length - 2 < b.length by omega)]
      congr 1
      have : b.length - 2 + 1 = b.length - 1 := by omega
      rw [this, List.drop_eq_getElem_cons (show b.length - 1 < b.length by omega), List.drop_eq_nil_of_le (by omega)]
      rfl
    conv => lhs; rw [← List.take_append_drop (b.length - 2) b, e1]
  obtain ⟨ws, c, m, rfl⟩ := e
  have e0 : (ws ++ [c, m]).length - 2 = ws.length := by simp
  have hw : ws.length ≤ 14 := by
    have : (ws ++ [c, m]).length = ws.length + 2 := by simp
    omega
  have e1 : (ws ++ [c, m]).take ws.length = ws := by simp
  have e2 : (ws ++ [c, m]).take (ws.length + 1) = ws ++ [c] := by
    rw [show ws ++ [c, m] = (ws ++ [c]) ++ [m] by simp]
    exact List.take_left' (by simp)
  have e3 : (ws ++ [c, m]).getD ws.length 0 = c := by simp [List.getD_eq_getElem?_getD]
  have e4 : (ws ++ [c, m]).getD (ws.length + 1) 0 = m := by
    rw [List.getD_eq_getElem?_getD, List.getElem?_append_right (by omega)]
    simp
  unfold cSyn at hc
  unfold rSyn at hr
  rw [e0, e2] at hc
  rw [e0, e1, e3, e4] at hr
  have ec : c = cols ws := by
    have : cols ws ^^^ c = 0 := by
      have z : (ws ++ [c]).foldl (fun a b => a ^^^ b) 0 = 0 := hc
      rw [List.foldl_append] at z
      exact z
    exact (xor_nil this).symm
  have em : m = marks ws := by
    rw [ec, rowsW_marks hw] at hr
    exact (xor_nil hr).symm
  rw [e0, e1, ec, em]
  rfl
/-! ### readings of tuples cut and joined -/
theorem catA_ok {K : PySem.W.Frag} {H : Hp} {a b : Addr} {xs ys : List V} {Q : VK} (ha : SqT K H a xs) (hb : SqT K H b ys) (hl : xs.length + ys.length ≤ sizeLine) (q : ∀ p H', Same H H' → SqT K H' p (xs ++ ys) → Q (.ref p) H') : rCatA K (.ref a) (.ref b) H Q := by
  refine ⟨a, b, xs, ys, rfl, rfl, ha, hb, hl, fun e => ?_, fun _ e => ?_, fun _ _ p np => ?_⟩
  · subst e
    exact q _ _ (Same.refl _) hb
  · subst e
    exact q _ _ (Same.refl _) (by rw [List.append_nil]; exact ha)
  · exact q _ _ (Same.new np) (SqT.of upd_same)
theorem slA_ok {K : PySem.W.Frag} {H : Hp} {a : Addr} {xs : List V} {lo hi : Option Int} {Q : VK} (h : SqT K H a xs) (q : ∀ p H', Same H H' → SqT K H' p (cutV xs lo hi) → Q (.ref p) H') : rSlA K (.ref a) lo hi H Q := by
  refine ⟨a, xs, rfl, h, fun e => ?_, fun _ p np => ?_⟩
  · exact q _ _ (Same.refl _) (by rw [cutV_all e]; exact h)
  · exact q _ _ (Same.new np) (SqT.of upd_same)
theorem cut_to_ws (ws : List Nat) (j : Nat) : cutV (wsV ws) none (some (j : Int)) = wsV (ws.take j) := by
  rw [cut_to]
  unfold wsV
  rw [List.map_take]
theorem cut_from_ws (ws : List Nat) (j : Nat) : cutV (wsV ws) (some (j : Int)) none = wsV (ws.drop j) := by
  rw [cut_from]
  unfold wsV
  rw [List.map_drop]
theorem wsV_app (a b : List Nat) : wsV (a ++ b) = wsV a ++ wsV b := List.map_append ..
theorem wsV_len (a : List Nat) : (wsV a).length = a.length := List.length_map ..
theorem wsV_at {a : List Nat} {i : Nat} (h : i < a.length) : (wsV a)[i]? = some (.int ((a.getD i 0 : Nat) : Int)) := by
  unfold wsV
  rw [List.getElem?_map, List.getElem?_eq_getElem h, List.getD_eq_getElem?_getD, List.getElem?_eq_getElem h]
  rfl
theorem flipB_eq {b : List Nat} {i k : Nat} (h : i < b.length) : flipB b i k = b.take i ++ [b.getD i 0 ^^^ 2 ^ k] ++ b.drop (i + 1) := by
  unfold flipB
  rw [List.set_eq_take_append_cons_drop, if_pos h, List.append_assoc]
  rfl
def spFlip (K : PySem.W.Frag) : Sp := fun vs H Q _ => ∃ (a : Addr) (bs : List Nat) (i k : Nat), vs = [.ref a, .int (i : Int), .int (k : Int)] ∧ SqT K H a (wsV bs) ∧ i < bs.length ∧ bs.length ≤ 100 ∧ k < 16 ∧
  ∀ p H', Same H H' → SqT K H' p (wsV (flipB bs i k)) → Q (.ref p) H'
theorem turn_pick (w k : Nat) : ∃ v : Int, atI [V.int ((2 ^ k : Nat) : Int), V.int (0 - ((2 ^ k : Nat) : Int))] (((w / 2 ^ k % 2 : Nat)) : Int) = some (.int v) ∧ (w : Int) + v = ((w ^^^ 2 ^ k : Nat) : Int) := by
  have e := xor_pow k w
  rw [Nat.testBit_eq_decide_div_mod_eq] at e
  rcases Nat.mod_two_eq_zero_or_one (w / 2 ^ k) with h | h
  · rw [h] at e ⊢
    refine ⟨_, rfl, ?_⟩
    rw [e]
    simp
  · rw [h] at e ⊢
    refine ⟨_, rfl, ?_⟩
    have hle : 2 ^ k ≤ w := by
      refine Nat.le_of_not_lt fun z => ?_
      rw [Nat.div_eq_of_lt z] at h
      cases h
    rw [if_pos (decide_eq_true rfl)] at e
    rw [e]
    generalize 2 ^ k = m at *
    omega
/-! ### tuples that the draws don't touch; one block sealed -/
theorem Kp.sqT {K : PySem.W.Frag} {st sc a : Addr} {ns : List Int} {H H1 : Hp} {xs : List V} (k : Kp st H H1) (g : StAt K st sc ns H) (h : SqT K H a xs) : SqT K H1 a xs := by
  obtain ⟨p, m, c, h', _⟩ := g
  have ne : ∀ {o : HO}, H a = some o → (∀ ys, o ≠ .lst ys) → a ≠ st := fun e n z => by
    rw [z, h'] at e
    exact n _ (Option.some.inj e).symm
  rcases h with (h | ⟨o, h⟩) | h
  · exact .inl (.inl (k _ _ (ne h fun _ z => by cases z) (fun _ z => by cases z) h))
  · exact .inl (.inr ⟨o, k _ _ (ne h fun _ z => by cases z) (fun _ z => by cases z) h⟩)
  · exact .inr h
theorem seal_one {ws : List Nat} (h1 : 1 ≤ ws.length) (h : ws.length ≤ 14) : sealD ws = [blkD ws] := by
  unfold sealD
  have e : (ws.length + 13) / 14 = 1 := by omega
  have e2 : chunk ws 0 = ws := by
    unfold chunk
    rw [Nat.zero_mul, List.drop_zero, List.take_of_length_le h]
  rw [e]
  show [blkD (chunk ws 0)] = _
  rw [e2]
theorem dp_seal {K : PySem.W.Frag} {H : Hp} {ws : List Nat} {ys : List V} (h1 : 1 ≤ ws.length) (h : ws.length ≤ 14) (d : DpAll K H ys (sealD ws)) : ∃ r, ys = [.ref r] ∧ SqT K H r (wsV (sealB ws)) := by
  rw [seal_one h1 h] at d
  cases d with
  | cons a b =>
    cases b
    cases a with
    | tup hT hall =>
      rw [dpAll_nums hall] at hT
      exact ⟨_, rfl, hT⟩
theorem sealB_lt {ws : List Nat} (h : ws.length ≤ 14) (hw : ∀ w ∈ ws, w < 65536) : ∀ w ∈ sealB ws, w < 65536 := fun w hx => by
  rcases List.mem_append.mp hx with hx | hx
  · exact hw w hx
  · rcases List.mem_cons.mp hx with hx | hx
    · rw [hx]
      exact cols_lt (n := 16) hw (by decide)
    · rw [List.mem_singleton.mp hx, ← rowsW_marks h]
      exact Nat.lt_of_lt_of_le (rowsW_lt h) (by decide)
theorem kd_ws {K : PySem.W.Frag} {b : List Nat} {H' : Hp} : ∀ x ∈ wsV b, ∃ n, Kd K H' x n := fun x hx => by
  unfold wsV at hx
  obtain ⟨n, _, rfl⟩ := List.mem_map.mp hx
  exact ⟨_, .int _⟩
theorem mendD_dep (ws : List Nat) (o : Option (Nat × Nat)) (h : ws.length ≤ 100) : depD 2 (mendD (ws, o)) = true := by
  have e : depD 1 (.tuple (numsD ws)) = true := by
    refine Bool.and_eq_true_iff.mpr ⟨decide_eq_true (by unfold numsD; simp; omega), List.all_eq_true.mpr fun d hd => ?_⟩
    unfold numsD at hd
    obtain ⟨n, _, rfl⟩ := List.mem_map.mp hd
    rfl
  cases o with
  | none =>
    show (decide _ && (depD 1 (.tuple (numsD ws)) && true)) = true
    rw [e]
    rfl
  | some p =>
    show (decide _ && (depD 1 (.tuple (numsD ws)) && (depD 1 (.tuple [.int (p.1 : Nat), .int (p.2 : Nat)]) && true))) = true
    rw [e]
    rfl
theorem pick3n {a b c : Nat} {r : Int} (h0 : 0 ≤ r) (h1 : r < 3) : ∃ f : Nat, atI [V.int ((a : Nat) : Int), V.int ((b : Nat) : Int), V.int ((c : Nat) : Int)] r = some (.int ((f : Nat) : Int)) ∧ (f = a ∨ f = b ∨ f = c) := by
  obtain ⟨v, e, h⟩ := pick3 (a := V.int ((a : Nat) : Int)) (b := V.int ((b : Nat) : Int)) (c := V.int ((c : Nat) : Int)) h0 h1
  rcases h with rfl | rfl | rfl
  · exact ⟨a, e, .inl rfl⟩
  · exact ⟨b, e, .inr (.inl rfl)⟩
  · exact ⟨c, e, .inr (.inr rfl)⟩
theorem pick4v {a b c d : V} {r : Int} (h0 : 0 ≤ r) (h1 : r < 4) : ∃ v, atI [a, b, c, d] r = some v ∧ (v = a ∨ v = b ∨ v = c ∨ v = d) := by
  obtain ⟨n, rfl⟩ : ∃ n : Nat, r = (n : Int) := ⟨r.toNat, by omega⟩
  have hn : n < 4 := by omega
  match n, hn with
  | 0, _ => exact ⟨a, rfl, .inl rfl⟩
  | 1, _ => exact ⟨b, rfl, .inr (.inl rfl)⟩
  | 2, _ => exact ⟨c, rfl, .inr (.inr (.inl rfl))⟩
  | 3, _ => exact ⟨d, rfl, .inr (.inr (.inr rfl))⟩
/-! ### a if t else b as a test -/
def tIfT (t ta tb : TT) : TT := fun σ H Q => t σ H fun c H1 => if c = true then ta σ H1 Q else tb σ H1 Q
theorem pt_ifExp {X : Cx} {c a b : Expr} {pos : Pos} {tA ta tb : TT} (hc : PT X c tA) (ha : PT X a ta) (hb : PT X b tb) : PT X (.IfExp c a b pos) (tIfT tA ta tb) := by
  refine ⟨fun pins s σ H Q I h => ?_⟩
  show wpAny (model X.prog X.w) X.A (do if ← isTrue c X.env (eval c X.env) then isTrue a X.env (eval a X.env) else isTrue b X.env (eval b X.env)) (TP X pins σ Q) X.xe s
  refine wpAny_bind (wpAny_mono (hc.run pins s σ H _ I h) (fun d s1 z => ?_) fun _ _ x => x)
  obtain ⟨H1, I1, q1⟩ := z
  cases d with
  | true => exact ha.run pins s1 σ H1 Q I1 q1
  | false => exact hb.run pins s1 σ H1 Q I1 q1
theorem shp_mend (ws : List Nat) : SeqAt.shaped (mendD (ws, none)) = true := by
  have h := dep_nums ws
  refine Bool.and_eq_true_iff.mpr ⟨?_, decide_eq_true ?_⟩
  · show (PyData.canLayAll0 (numsD ws) && true) = true
    rw [lay_nums]
    rfl
  · show max (PyData.depthAll (numsD ws) + 1) (max (PyData.depth .none) 0) + 1 ≤ 64
    have : PyData.depth .none ≤ 1 := by first | exact Nat.le_refl _ | exact Nat.zero_le _
    omega
theorem eqv_pair (i k x y : Nat) : PyData.eqv (.tuple [.int (i : Nat), .int (k : Nat)]) (.tuple [.int (x : Nat), .int (y : Nat)]) = decide (i = x ∧ k = y) := by
  show ((((i : Nat) : Int) == ((x : Nat) : Int)) && ((((k : Nat) : Int) == ((y : Nat) : Int)) && true)) = _
  rw [Bool.eq_iff_iff]
  simp
  omega
end Bm


set_option Elab.async false
set_option linter.all false
set_option maxRecDepth 100000
set_option maxHeartbeats 0
namespace Lk25
open PySem PySem.Spec PyProof.Rows L2
def top (i : Nat) : Stmt := PySem.Challenge.pw_bitmill_k25_whole_any_turned_bit_is_mend.main.body.getD i (.Pass ⟨0, 0, 0, 0⟩)
abbrev s_is_whole : Stmt := top 2
abbrev s_is_odd : Stmt := top 3
abbrev s_Numbered_init : Stmt := inClass (top 11) 0
abbrev s_BadRow_init : Stmt := inClass (top 15) 0
abbrev s_need_words : Stmt := top 18
abbrev s_columns_of : Stmt := top 21
abbrev s_marks_of : Stmt := top 22
abbrev s_block_of : Stmt := top 23
abbrev s_sealed : Stmt := top 24
abbrev s_need_block : Stmt := top 25
abbrev s_bits_in : Stmt := top 26
abbrev s_mended : Stmt := top 27
abbrev s_law_start : Stmt := top 29
abbrev s_law_drawn : Stmt := top 30
abbrev s_law_same : Stmt := top 31
abbrev s_law_kind : Stmt := top 32
abbrev s_law_is_odd : Stmt := top 33
abbrev s_law_block : Stmt := top 34
abbrev s_law_flipped : Stmt := top 35
abbrev s_law : Stmt := top 36
def d_is_whole : He.DefD := ⟨("is_whole", none), "is_whole", "is_whole", defArgs s_is_whole, defBody s_is_whole, defScope s_is_whole, [.int (0), .int (65535)], []⟩
def d_is_odd : He.DefD := ⟨("is_odd", none), "is_odd", "is_odd", defArgs s_is_odd, defBody s_is_odd, defScope s_is_odd, [], []⟩
def d_Numbered_init : He.DefD := ⟨("Numbered", some "__init__"), "__init__", "Numbered.__init__", defArgs s_Numbered_init, defBody s_Numbered_init, defScope s_Numbered_init, [], []⟩
def d_BadRow_init : He.DefD := ⟨("BadRow", some "__init__"), "__init__", "BadRow.__init__", defArgs s_BadRow_init, defBody s_BadRow_init, defScope s_BadRow_init, [], []⟩
def d_need_words : He.DefD := ⟨("need_words", none), "need_words", "need_words", defArgs s_need_words, defBody s_need_words, defScope s_need_words, [], []⟩
def d_columns_of : He.DefD := ⟨("columns_of", none), "columns_of", "columns_of", defArgs s_columns_of, defBody s_columns_of, defScope s_columns_of, [], []⟩
def d_marks_of : He.DefD := ⟨("marks_of", none), "marks_of", "marks_of", defArgs s_marks_of, defBody s_marks_of, defScope s_marks_of, [], []⟩
def d_block_of : He.DefD := ⟨("block_of", none), "block_of", "block_of", defArgs s_block_of, defBody s_block_of, defScope s_block_of, [], []⟩
def d_sealed : He.DefD := ⟨("sealed", none), "sealed", "sealed", defArgs s_sealed, defBody s_sealed, defScope s_sealed, [], []⟩
def d_need_block : He.DefD := ⟨("need_block", none), "need_block", "need_block", defArgs s_need_block, defBody s_need_block, defScope s_need_block, [], []⟩
def d_bits_in : He.DefD := ⟨("bits_in", none), "bits_in", "bits_in", defArgs s_bits_in, defBody s_bits_in, defScope s_bits_in, [], []⟩
def d_mended : He.DefD := ⟨("mended", none), "mended", "mended", defArgs s_mended, defBody s_mended, defScope s_mended, [], []⟩
def d_law_start : He.DefD := ⟨("_law_start", none), "_law_start", "_law_start", defArgs s_law_start, defBody s_law_start, defScope s_law_start, [], []⟩
def d_law_drawn : He.DefD := ⟨("_law_drawn", none), "_law_drawn", "_law_drawn", defArgs s_law_drawn, defBody s_law_drawn, defScope s_law_drawn, [], []⟩
def d_law_same : He.DefD := ⟨("_law_same", none), "_law_same", "_law_same", defArgs s_law_same, defBody s_law_same, defScope s_law_same, [], []⟩
def d_law_kind : He.DefD := ⟨("_law_kind", none), "_law_kind", "_law_kind", defArgs s_law_kind, defBody s_law_kind, defScope s_law_kind, [], []⟩
def d_law_is_odd : He.DefD := ⟨("_law_is_odd", none), "_law_is_odd", "_law_is_odd", defArgs s_law_is_odd, defBody s_law_is_odd, defScope s_law_is_odd, [], []⟩
def d_law_block : He.DefD := ⟨("_law_block", none), "_law_block", "_law_block", defArgs s_law_block, defBody s_law_block, defScope s_law_block, [], []⟩
def d_law_flipped : He.DefD := ⟨("_law_flipped", none), "_law_flipped", "_law_flipped", defArgs s_law_flipped, defBody s_law_flipped, defScope s_law_flipped, [], []⟩
def d_law : He.DefD := ⟨("law", none), "law", "law", defArgs s_law, defBody s_law, defScope s_law, [], []⟩
def fn : List He.DefD := [d_is_whole, d_is_odd, d_Numbered_init, d_BadRow_init, d_need_words, d_columns_of, d_marks_of, d_block_of, d_sealed, d_need_block, d_bits_in, d_mended, d_law_start, d_law_drawn, d_law_same, d_law_kind, d_law_is_odd, d_law_block, d_law_flipped, d_law]
def fa : List He.Fa := [.glo "is_whole", .glo "is_odd", .glo "need_words", .glo "columns_of", .glo "marks_of", .glo "block_of", .glo "sealed", .glo "need_block", .glo "bits_in", .glo "mended", .glo "_law_start", .glo "_law_drawn", .glo "_law_same", .glo "_law_kind", .glo "_law_is_odd", .glo "_law_block", .glo "_law_flipped", .glo "law", .glo "MillError", .glo "BadDeed", .glo "BadReach", .glo "NoDeed", .glo "BadCount", .glo "NoMend", .glo "Numbered", .glo "BadImage", .glo "BadGiven", .glo "BadList", .glo "BadRow", .free "ValueError", .free "bool", .free "enumerate", .free "int", .free "isinstance", .free "len", .free "list", .free "range", .free "sum", .free "tuple", .int "LAST" 65535, .int "MOST_WORDS" 200, .int "MOST_BLOCK" 14]
abbrev R : PySem.W.OpenRow := PySem.W.OpenLaw.row PySem.Challenge.rw_bitmill_k25_whole_any_turned_bit_is_mend
def tf : List He.Defn := [("law", none)]
abbrev hk : PySem.W.Hook := Bm.hookB 6 fa fn [] tf Bm.xB
def ob (s : PySem.W.SharedT) : He.AlX := Bm.obsB 6 fa fn [] tf Bm.xB (HandSHeadRun.getT s)
theorem ob_eq (s : PySem.W.SharedT) : ob s = hk.obs s.abs := Bm.obsB_eq (HandSHeadRun.getT_eq s)
def names : List Str := (["BadCount", "BadDeed", "BadGiven", "BadImage", "BadList", "BadReach", "BadRow", "LAST", "MOST_BLOCK", "MOST_WORDS", "MillError", "NoDeed", "NoMend", "Numbered", "_law_block", "_law_drawn", "_law_flipped", "_law_is_odd", "_law_kind", "_law_same", "_law_start", "bits_in", "block_of", "columns_of", "is_odd", "is_whole", "marks_of", "mended", "need_block", "need_words", "sealed"] : List Str)
theorem runF (w : World) : HandSHeadRun.RunEq R (PySem.W.view R.prog [36]) hk ob 6000 names (w.withFollow "special-get-raises" false) := by
  intro os
  kernel_rfl
theorem runT (w : World) : HandSHeadRun.RunEq R (PySem.W.view R.prog [36]) hk ob 6000 names (w.withFollow "special-get-raises" true) := by
  intro os
  kernel_rfl
theorem run (w : World) : HandSHeadRun.RunEq R (PySem.W.view R.prog [36]) hk ob 6000 names w :=
  PySem.W.byRow2 "special-get-raises" (P := fun w => HandSHeadRun.RunEq R (PySem.W.view R.prog [36]) hk ob 6000 names w) runF runT w
end Lk25


set_option autoImplicit false
set_option Elab.async false
set_option linter.all false
set_option maxRecDepth 100000
set_option maxHeartbeats 4000000
namespace Lk25
open PySem PySem.Spec PyProof.Rows L2 Bm
structure Txt (K : PySem.W.Frag) (mg : Str → Option Value) : Prop where
  x : Bm.XF K
  g_is_whole : mg "is_whole" = some (.ref (He.ga K "is_whole"))
  g_is_odd : mg "is_odd" = some (.ref (He.ga K "is_odd"))
  g_need_words : mg "need_words" = some (.ref (He.ga K "need_words"))
  g_columns_of : mg "columns_of" = some (.ref (He.ga K "columns_of"))
  g_marks_of : mg "marks_of" = some (.ref (He.ga K "marks_of"))
  g_block_of : mg "block_of" = some (.ref (He.ga K "block_of"))
  g_sealed : mg "sealed" = some (.ref (He.ga K "sealed"))
  g_need_block : mg "need_block" = some (.ref (He.ga K "need_block"))
  g_bits_in : mg "bits_in" = some (.ref (He.ga K "bits_in"))
  g_mended : mg "mended" = some (.ref (He.ga K "mended"))
  g_law_start : mg "_law_start" = some (.ref (He.ga K "_law_start"))
  g_law_drawn : mg "_law_drawn" = some (.ref (He.ga K "_law_drawn"))
  g_law_same : mg "_law_same" = some (.ref (He.ga K "_law_same"))
  g_law_kind : mg "_law_kind" = some (.ref (He.ga K "_law_kind"))
  g_law_is_odd : mg "_law_is_odd" = some (.ref (He.ga K "_law_is_odd"))
  g_law_block : mg "_law_block" = some (.ref (He.ga K "_law_block"))
  g_law_flipped : mg "_law_flipped" = some (.ref (He.ga K "_law_flipped"))
  g_law : mg "law" = some (.ref (He.ga K "law"))
  c_MillError : mg "MillError" = some (.ref (He.ga K "MillError"))
  c_BadDeed : mg "BadDeed" = some (.ref (He.ga K "BadDeed"))
  c_BadReach : mg "BadReach" = some (.ref (He.ga K "BadReach"))
  c_NoDeed : mg "NoDeed" = some (.ref (He.ga K "NoDeed"))
  c_BadCount : mg "BadCount" = some (.ref (He.ga K "BadCount"))
  c_NoMend : mg "NoMend" = some (.ref (He.ga K "NoMend"))
  c_Numbered : mg "Numbered" = some (.ref (He.ga K "Numbered"))
  c_BadImage : mg "BadImage" = some (.ref (He.ga K "BadImage"))
  c_BadGiven : mg "BadGiven" = some (.ref (He.ga K "BadGiven"))
  c_BadList : mg "BadList" = some (.ref (He.ga K "BadList"))
  c_BadRow : mg "BadRow" = some (.ref (He.ga K "BadRow"))
  b_ValueError : mg "ValueError" = none
  b_bool : mg "bool" = none
  b_enumerate : mg "enumerate" = none
  b_int : mg "int" = none
  b_isinstance : mg "isinstance" = none
  b_len : mg "len" = none
  b_list : mg "list" = none
  b_range : mg "range" = none
  b_sum : mg "sum" = none
  b_tuple : mg "tuple" = none
  i_LAST : ∃ u, mg "LAST" = some u ∧ RelV (.int 65535) u
  i_MOST_WORDS : ∃ u, mg "MOST_WORDS" = some u ∧ RelV (.int 200) u
  i_MOST_BLOCK : ∃ u, mg "MOST_BLOCK" = some u ∧ RelV (.int 14) u
structure Defs (K : PySem.W.Frag) : Prop where
  is_whole : ∃ fd, FunD K "is_whole" "is_whole" (defArgs s_is_whole) (defBody s_is_whole) (defScope s_is_whole) [.int (0), .int (65535)] [] (He.ga K "is_whole") fd
  is_odd : ∃ fd, FunD K "is_odd" "is_odd" (defArgs s_is_odd) (defBody s_is_odd) (defScope s_is_odd) [] [] (He.ga K "is_odd") fd
  Numbered_init : ∃ fd, FunD K "__init__" "Numbered.__init__" (defArgs s_Numbered_init) (defBody s_Numbered_init) (defScope s_Numbered_init) [] [] (He.ma K (He.ga K "Numbered") "__init__") fd
  BadRow_init : ∃ fd, FunD K "__init__" "BadRow.__init__" (defArgs s_BadRow_init) (defBody s_BadRow_init) (defScope s_BadRow_init) [] [] (He.ma K (He.ga K "BadRow") "__init__") fd
  need_words : ∃ fd, FunD K "need_words" "need_words" (defArgs s_need_words) (defBody s_need_words) (defScope s_need_words) [] [] (He.ga K "need_words") fd
  columns_of : ∃ fd, FunD K "columns_of" "columns_of" (defArgs s_columns_of) (defBody s_columns_of) (defScope s_columns_of) [] [] (He.ga K "columns_of") fd
  marks_of : ∃ fd, FunD K "marks_of" "marks_of" (defArgs s_marks_of) (defBody s_marks_of) (defScope s_marks_of) [] [] (He.ga K "marks_of") fd
  block_of : ∃ fd, FunD K "block_of" "block_of" (defArgs s_block_of) (defBody s_block_of) (defScope s_block_of) [] [] (He.ga K "block_of") fd
  sealed : ∃ fd, FunD K "sealed" "sealed" (defArgs s_sealed) (defBody s_sealed) (defScope s_sealed) [] [] (He.ga K "sealed") fd
  need_block : ∃ fd, FunD K "need_block" "need_block" (defArgs s_need_block) (defBody s_need_block) (defScope s_need_block) [] [] (He.ga K "need_block") fd
  bits_in : ∃ fd, FunD K "bits_in" "bits_in" (defArgs s_bits_in) (defBody s_bits_in) (defScope s_bits_in) [] [] (He.ga K "bits_in") fd
  mended : ∃ fd, FunD K "mended" "mended" (defArgs s_mended) (defBody s_mended) (defScope s_mended) [] [] (He.ga K "mended") fd
  law_start : ∃ fd, FunD K "_law_start" "_law_start" (defArgs s_law_start) (defBody s_law_start) (defScope s_law_start) [] [] (He.ga K "_law_start") fd
  law_drawn : ∃ fd, FunD K "_law_drawn" "_law_drawn" (defArgs s_law_drawn) (defBody s_law_drawn) (defScope s_law_drawn) [] [] (He.ga K "_law_drawn") fd
  law_same : ∃ fd, FunD K "_law_same" "_law_same" (defArgs s_law_same) (defBody s_law_same) (defScope s_law_same) [] [] (He.ga K "_law_same") fd
  law_kind : ∃ fd, FunD K "_law_kind" "_law_kind" (defArgs s_law_kind) (defBody s_law_kind) (defScope s_law_kind) [] [] (He.ga K "_law_kind") fd
  law_is_odd : ∃ fd, FunD K "_law_is_odd" "_law_is_odd" (defArgs s_law_is_odd) (defBody s_law_is_odd) (defScope s_law_is_odd) [] [] (He.ga K "_law_is_odd") fd
  law_block : ∃ fd, FunD K "_law_block" "_law_block" (defArgs s_law_block) (defBody s_law_block) (defScope s_law_block) [] [] (He.ga K "_law_block") fd
  law_flipped : ∃ fd, FunD K "_law_flipped" "_law_flipped" (defArgs s_law_flipped) (defBody s_law_flipped) (defScope s_law_flipped) [] [] (He.ga K "_law_flipped") fd
  law : ∃ fd, FunD K "law" "law" (defArgs s_law) (defBody s_law) (defScope s_law) [] [] (He.ga K "law") fd
theorem txt_of {w : World} {K : PySem.W.Frag} {h : Heap} {mg : Str → Option Value} (X : K.In h) (G : h.Ns mainGlobals mg) (c : He.SaysX fa fn [] tf Bm.xB w h K) : Txt K mg :=
  ⟨Bm.xB_ok c.more,
   He.glo_ok X G (c.t.d.fact 0 (f := .glo "is_whole") rfl),
   He.glo_ok X G (c.t.d.fact 1 (f := .glo "is_odd") rfl),
   He.glo_ok X G (c.t.d.fact 2 (f := .glo "need_words") rfl),
   He.glo_ok X G (c.t.d.fact 3 (f := .glo "columns_of") rfl),
   He.glo_ok X G (c.t.d.fact 4 (f := .glo "marks_of") rfl),
   He.glo_ok X G (c.t.d.fact 5 (f := .glo "block_of") rfl),
   He.glo_ok X G (c.t.d.fact 6 (f := .glo "sealed") rfl),
   He.glo_ok X G (c.t.d.fact 7 (f := .glo "need_block") rfl),
   He.glo_ok X G (c.t.d.fact 8 (f := .glo "bits_in") rfl),
   He.glo_ok X G (c.t.d.fact 9 (f := .glo "mended") rfl),
   He.glo_ok X G (c.t.d.fact 10 (f := .glo "_law_start") rfl),
   He.glo_ok X G (c.t.d.fact 11 (f := .glo "_law_drawn") rfl),
   He.glo_ok X G (c.t.d.fact 12 (f := .glo "_law_same") rfl),
   He.glo_ok X G (c.t.d.fact 13 (f := .glo "_law_kind") rfl),
   He.glo_ok X G (c.t.d.fact 14 (f := .glo "_law_is_odd") rfl),
   He.glo_ok X G (c.t.d.fact 15 (f := .glo "_law_block") rfl),
   He.glo_ok X G (c.t.d.fact 16 (f := .glo "_law_flipped") rfl),
   He.glo_ok X G (c.t.d.fact 17 (f := .glo "law") rfl),
   He.glo_ok X G (c.t.d.fact 18 (f := .glo "MillError") rfl),
   He.glo_ok X G (c.t.d.fact 19 (f := .glo "BadDeed") rfl),
   He.glo_ok X G (c.t.d.fact 20 (f := .glo "BadReach") rfl),
   He.glo_ok X G (c.t.d.fact 21 (f := .glo "NoDeed") rfl),
   He.glo_ok X G (c.t.d.fact 22 (f := .glo "BadCount") rfl),
   He.glo_ok X G (c.t.d.fact 23 (f := .glo "NoMend") rfl),
   He.glo_ok X G (c.t.d.fact 24 (f := .glo "Numbered") rfl),
   He.glo_ok X G (c.t.d.fact 25 (f := .glo "BadImage") rfl),
   He.glo_ok X G (c.t.d.fact 26 (f := .glo "BadGiven") rfl),
   He.glo_ok X G (c.t.d.fact 27 (f := .glo "BadList") rfl),
   He.glo_ok X G (c.t.d.fact 28 (f := .glo "BadRow") rfl),
   He.free_ok X G (c.t.d.fact 29 (f := .free "ValueError") rfl),
   He.free_ok X G (c.t.d.fact 30 (f := .free "bool") rfl),
   He.free_ok X G (c.t.d.fact 31 (f := .free "enumerate") rfl),
   He.free_ok X G (c.t.d.fact 32 (f := .free "int") rfl),
   He.free_ok X G (c.t.d.fact 33 (f := .free "isinstance") rfl),
   He.free_ok X G (c.t.d.fact 34 (f := .free "len") rfl),
   He.free_ok X G (c.t.d.fact 35 (f := .free "list") rfl),
   He.free_ok X G (c.t.d.fact 36 (f := .free "range") rfl),
   He.free_ok X G (c.t.d.fact 37 (f := .free "sum") rfl),
   He.free_ok X G (c.t.d.fact 38 (f := .free "tuple") rfl),
   Bm.iof (He.int_ok X G (c.t.d.fact 39 (f := .int "LAST" 65535) rfl)),
   Bm.iof (He.int_ok X G (c.t.d.fact 40 (f := .int "MOST_WORDS" 200) rfl)),
   Bm.iof (He.int_ok X G (c.t.d.fact 41 (f := .int "MOST_BLOCK" 14) rfl))⟩
theorem defs_of {w : World} {K : PySem.W.Frag} {h : Heap} (c : He.SaysX fa fn [] tf Bm.xB w h K) : Defs K :=
  ⟨c.t.d.def_ 0 (d := d_is_whole) rfl,
   c.t.d.def_ 1 (d := d_is_odd) rfl,
   c.t.d.def_ 2 (d := d_Numbered_init) rfl,
   c.t.d.def_ 3 (d := d_BadRow_init) rfl,
   c.t.d.def_ 4 (d := d_need_words) rfl,
   c.t.d.def_ 5 (d := d_columns_of) rfl,
   c.t.d.def_ 6 (d := d_marks_of) rfl,
   c.t.d.def_ 7 (d := d_block_of) rfl,
   c.t.d.def_ 8 (d := d_sealed) rfl,
   c.t.d.def_ 9 (d := d_need_block) rfl,
   c.t.d.def_ 10 (d := d_bits_in) rfl,
   c.t.d.def_ 11 (d := d_mended) rfl,
   c.t.d.def_ 12 (d := d_law_start) rfl,
   c.t.d.def_ 13 (d := d_law_drawn) rfl,
   c.t.d.def_ 14 (d := d_law_same) rfl,
   c.t.d.def_ 15 (d := d_law_kind) rfl,
   c.t.d.def_ 16 (d := d_law_is_odd) rfl,
   c.t.d.def_ 17 (d := d_law_block) rfl,
   c.t.d.def_ 18 (d := d_law_flipped) rfl,
   c.t.d.def_ 19 (d := d_law) rfl⟩
section
variable {P : Program} {w : World} {K : PySem.W.Frag} {mg : Str → Option Value} {base : Heap}
theorem sc_is_whole : FnScope ["thing", "low", "high"] ["thing", "low", "high"] (defScope s_is_whole) := ⟨rfl, rfl, rfl, by decide +kernel, rfl, by decide +kernel, by decide +kernel⟩
theorem ok_is_whole (T : Txt K mg) {dvs : List V} {f : Addr} {fd : FuncData} (F : FunD K "is_whole" "is_whole" (defArgs s_is_whole) (defBody s_is_whole) (defScope s_is_whole) dvs [] f fd) : FnOk P w K mg base CX0 1 f fd ["thing", "low", "high"] (spWhole K) := by
  refine F.ok sc_is_whole (fun vs H Q E h => ?_) (fun cdv A outer s H vs Q E hr h => ?_)
  · obtain ⟨v, n, lo, hi, rfl, _⟩ := h
    rfl
  · obtain ⟨v, n, lo, hi, rfl, k, q⟩ := h
    refine ⟨_, PSs.nox (pss_one (ps_ret (pe_and (pe_callB call_isi rfl T.b_isinstance (by decide +kernel) (pa_cons (pv 0) (pa_cons (pe_bltn (v := .ty "int") rfl T.b_int (by decide +kernel) rfl) pa_nil))) (pe_and (pe_not (pe_callB call_isi rfl T.b_isinstance (by decide +kernel) (pa_cons (pv 0) (pa_cons (pe_bltn (v := .ty "bool") rfl T.b_bool (by decide +kernel) rfl) pa_nil)))) (pe_one (pe_chain op_le op_le (pv 1) (pv 0) (pv 2))))))), ?_⟩
    refine ⟨_, rfl, _, _, _, _, _, rfl, .ty "int", k.ty, k.kit (by decide), _, rfl, ?_⟩
    cases k with
    | int i =>
      refine iteT ⟨_, rfl, _, _, _, _, _, rfl, .ty "bool", (Kd.int (K := K) (H := H) i).ty, (Kd.int (K := K) (H := H) i).kit (by decide), _, rfl, _, rfl, iteT ⟨_, rfl, _, rfl, _, _, rfl, rfl, _, rfl, ?_⟩⟩
      refine iteD (fun h1 => ⟨_, rfl, _, _, rfl, rfl, ?_⟩) (fun h1 => ?_)
      · have e : isWhole (.int i) lo hi = decide (i ≤ hi) := by
          show (decide (lo ≤ i) && decide (i ≤ hi)) = _
          rw [decide_eq_true h1, Bool.true_and]
        rw [e] at q
        exact q
      · have e : isWhole (.int i) lo hi = false := by
          show (decide (lo ≤ i) && decide (i ≤ hi)) = _
          rw [decide_eq_false h1, Bool.false_and]
        rw [e] at q
        exact q
    | bl b => exact iteT ⟨_, rfl, _, _, _, _, _, rfl, .ty "bool", (Kd.bl (K := K) (H := H) b).ty, (Kd.bl (K := K) (H := H) b).kit (by decide), _, rfl, _, rfl, iteF q⟩
    | non => exact iteF q
    | str x => exact iteF q
    | lst h => exact iteF q
    | tup h => exact iteF q
theorem fn_is_whole3 (T : Txt K mg) (Df : Defs K) : Fn P w K mg base CX0 1 "is_whole" (spWhole K) [] := by
  obtain ⟨fd, F⟩ := Df.is_whole
  exact .of F T.g_is_whole (F.binds1 3 2 (by simp) rfl fun T kV doc pm an cdv ct us its h1 h2 => match us, h1, its, h2 with | [_, _, _], _, [_, _], _ => ⟨_, rfl, rfl⟩) (ok_is_whole T F)
theorem fn_is_whole1 (T : Txt K mg) (Df : Defs K) : Fn P w K mg base CX0 1 "is_whole" (spWhole K) [.int 0, .int 65535] := by
  obtain ⟨fd, F⟩ := Df.is_whole
  exact .of F T.g_is_whole (F.binds1 1 0 (by simp) rfl fun T kV doc pm an cdv ct us its h1 h2 => match us, h1, its, h2 with | [_], _, [_, _], _ => ⟨_, rfl, rfl⟩) (ok_is_whole T F)
end
section
variable {P : Program} {w : World} {K : PySem.W.Frag} {mg : Str → Option Value} {base : Heap}
theorem sc_is_odd : FnScope ["word", "found"] ["word"] (defScope s_is_odd) := ⟨rfl, rfl, rfl, by decide +kernel, rfl, by decide +kernel, by decide +kernel⟩
theorem ok_is_odd {f : Addr} {fd : FuncData} (F : FunD K "is_odd" "is_odd" (defArgs s_is_odd) (defBody s_is_odd) (defScope s_is_odd) [] [] f fd) : FnOk P w K mg base CX0 1 f fd ["word"] spOdd := by
  refine F.ok sc_is_odd (fun vs H Q E h => ?_) (fun cdv A outer s H vs Q E hr h => ?_)
  · obtain ⟨n, rfl, _⟩ := h
    rfl
  · obtain ⟨n, rfl, q⟩ := h
    refine ⟨_, PSs.nox (pss_cons (ps_set (i := 1) sc_is_odd.nd rfl (Or.inl rfl) pe_int)
  (pss_cons (ps_while PassesOwn.never (pt_cmpR op_gt (pv 0) pe_int (nomark _)) (pss_cons (ps_aug (i := 1) sc_is_odd.nd rfl (Or.inl rfl) (pe_op op_andN (pv 0) pe_int) (pip_of iop_xorN))
  (pss_one (ps_aug (i := 0) sc_is_odd.nd rfl (Or.inl rfl) pe_int (pip_of iop_shrNN)))))
  (pss_one (ps_ret (pe_cmpR op_eq (pv 1) pe_int (nomark _)))))), ?_⟩
    refine ⟨fun m σ H' => H' = H ∧ ∃ b : Bool, σ = [some (.int ((m : Nat) : Int)), some (.int ((b.toNat : Nat) : Int))] ∧ (b ^^ oddB m) = oddB n, ⟨n, rfl, false, rfl, Bool.false_xor _⟩, ?_⟩
    rintro m σ H' ⟨rfl, b, rfl, e⟩
    refine ⟨_, rfl, _, _, rfl, rfl, _, rfl, ?_⟩
    by_cases hm : m = 0
    · subst hm
      refine iteF ?_
      rw [oddB_zero, Bool.xor_false] at e
      refine ⟨_, rfl, rfl, ?_⟩
      show Q (.bl (decide (V.int ((b.toNat : Nat) : Int) = V.int 1))) H'
      have e2 : decide (V.int ((b.toNat : Nat) : Int) = V.int 1) = b := by cases b <;> decide
      rw [e2, e]
      exact q
    · refine iteDT (by omega) ?_
      refine ⟨fun σ' H2 => H2 = H' ∧ ∃ b' : Bool, σ' = [some (.int ((m / 2 : Nat) : Int)), some (.int ((b'.toNat : Nat) : Int))] ∧ (b' ^^ oddB (m / 2)) = oddB n, fun σ' H2 h2 => ⟨m / 2, by omega, h2⟩, ?_⟩
      refine ⟨_, rfl, _, rfl, _, 1, rfl, rfl, _, _, rfl, rfl, ?_⟩
      refine ⟨_, rfl, m, 1, rfl, rfl, trivial, rfl, b ^^ (m % 2 == 1), ?_, ?_⟩
      · have e1 : b.toNat ^^^ (m &&& 1) = (b ^^ (m % 2 == 1)).toNat := by
          rw [Nat.and_one_is_mod]
          rcases Nat.mod_two_eq_zero_or_one m with h | h <;> rw [h] <;> cases b <;> rfl
        show [some (V.int ((m / 2 ^ 1 : Nat) : Int)), some (V.int ((b.toNat ^^^ (m &&& 1) : Nat) : Int))] = _
        rw [e1, Nat.pow_one]
      · rw [← e, oddB_step hm, Bool.xor_assoc]
theorem fn_is_odd (T : Txt K mg) (Df : Defs K) : Fn P w K mg base CX0 1 "is_odd" spOdd [] := by
  obtain ⟨fd, F⟩ := Df.is_odd
  exact .of F T.g_is_odd (bnd0 F fun _ _ _ _ _ _ us hl => match us, hl with | [_], _ => rfl) (ok_is_odd F)
end
end Lk25


set_option autoImplicit false
set_option Elab.async false
set_option linter.all false
set_option maxRecDepth 100000
set_option maxHeartbeats 4000000
namespace Lk25
open PySem PySem.Spec PyProof.Rows L2 Bm
section
variable {P : Program} {w : World} {K : PySem.W.Frag} {mg : Str → Option Value} {base : Heap}
theorem sc_law_start : FnScope ["_law_script", "_law_mixed", "_law_cell"] ["_law_script"] (defScope s_law_start) := ⟨rfl, rfl, rfl, by decide +kernel, rfl, by decide +kernel, by decide +kernel⟩
theorem ok_law_start {f : Addr} {fd : FuncData} (F : FunD K "_law_start" "_law_start" (defArgs s_law_start) (defBody s_law_start) (defScope s_law_start) [] [] f fd) : FnOk P w K mg base CX0 1 f fd ["_law_script"] (spStart K) := by
  refine F.ok sc_law_start (fun vs H Q E h => ?_) (fun cdv A outer s H vs Q E hr h => ?_)
  · obtain ⟨sc, ns, rfl, _⟩ := h
    rfl
  · obtain ⟨sc, ns, rfl, hS, hl, q⟩ := h
    refine ⟨_, PSs.nox (pss_cons (ps_set (i := 1) sc_law_start.nd rfl (Or.inl rfl) pe_int)
  (pss_cons (ps_for PassesOwn.never rfl (pi_list (pv 0)) (pg_name (i := 2) sc_law_start.nd rfl (Or.inl rfl)) (pss_one (ps_set (i := 1) sc_law_start.nd rfl (Or.inl rfl) (pe_op op_mod (pe_op op_add (pe_op op_add (pe_op op_mul (pv 1) pe_int) (pv 2)) pe_int) pe_int))))
  (pss_one (ps_ret (pe_lst (pa_cons (pv 0) (pa_cons pe_int (pa_cons (pv 1) (pa_cons pe_int pa_nil))))))))), ?_⟩
    refine ⟨_, rfl, sc, rfl, ⟨_, hS⟩, for_list (K := K) (a := sc) (xs := ns.map V.int) (fun i σ H' => H' = H ∧ ∃ (m : Int) (v : Option V), σ = [some (.ref sc), some (.int m), v] ∧ 0 ≤ m ∧ m < 2147483647) ⟨rfl, 1, none, rfl, by decide, by decide⟩ (fun i σ H' _ ⟨e, _⟩ => e ▸ hS) ?_ ?_⟩
    · rintro i y σ H' hi ⟨rfl, m, v, rfl, h0, h1⟩
      obtain ⟨u, rfl⟩ : ∃ u, y = V.int u := by
        obtain ⟨u, _, e⟩ := List.mem_map.mp (List.mem_of_getElem? hi)
        exact ⟨u, e.symm⟩
      refine ⟨_, rfl, _, _, rfl, rfl, .inr ⟨by decide, by decide⟩, _, rfl, _, _, rfl, rfl, _, _, rfl, rfl, _, _, rfl, rfl, (show (0 : Int) < 2147483647 by decide), rfl, _, _, rfl, Int.emod_nonneg _ (by decide), Int.emod_lt_of_pos _ (by decide)⟩
    · rintro σ H' ⟨rfl, m, v, rfl, h0, h1⟩
      refine ⟨_, rfl, _, rfl, (show 4 ≤ sizeLine by decide), fun st hst => ?_⟩
      exact q st _ hst (Same.new hst) ⟨0, m, 0, upd_same, Int.le_refl _, h0, h1, Int.le_refl _, (Same.new hst).seq hS⟩
theorem fn_law_start (T : Txt K mg) (Df : Defs K) : Fn P w K mg base CX0 1 "_law_start" (spStart K) [] := by
  obtain ⟨fd, F⟩ := Df.law_start
  exact .of F T.g_law_start (bnd0 F fun _ _ _ _ _ _ us hl => match us, hl with | [_], _ => rfl) (ok_law_start F)
theorem sc_law_drawn : FnScope ["_law_state", "_law_many", "_law_found", "_law_cell"] ["_law_state", "_law_many"] (defScope s_law_drawn) := ⟨rfl, rfl, rfl, by decide +kernel, rfl, by decide +kernel, by decide +kernel⟩
theorem ok_law_drawn (T : Txt K mg) {f : Addr} {fd : FuncData} (F : FunD K "_law_drawn" "_law_drawn" (defArgs s_law_drawn) (defBody s_law_drawn) (defScope s_law_drawn) [] [] f fd) : FnOk P w K mg base CX0 1 f fd ["_law_state", "_law_many"] (spDrawn K) := by
  refine F.ok sc_law_drawn (fun vs H Q E h => ?_) (fun cdv A outer s H vs Q E hr h => ?_)
  · obtain ⟨st, sc, ns, m, rfl, _⟩ := h
    rfl
  · obtain ⟨st, sc, ns, m, rfl, ⟨p, x, c, hst, hp, hx0, hx1, hc, hS⟩, hm0, hm1, q⟩ := h
    refine ⟨_, PSs.nox (pss_cons (ps_if (pt_cmpR op_gt (pe_ix ix_list (pv 0) pe_int (fun _ _ => rfl)) pe_int (nomark _)) (pss_cons (ps_set (i := 2) sc_law_drawn.nd rfl (Or.inl rfl) (pe_op op_mod (pe_ix ix_list (pv 0) pe_int (fun _ _ => rfl)) (pv 1)))
  (pss_cons (ps_asg (pe_op op_fdiv (pe_ix ix_list (pv 0) pe_int (fun _ _ => rfl)) (pv 1)) (pg_sub (pv 0) pe_int set_list))
  (pss_one (ps_ret (pv 2))))) (pss_nil))
  (pss_cons (ps_asg (pe_op op_add (pe_ix ix_list (pv 0) pe_int (fun _ _ => rfl)) pe_int) (pg_sub (pv 0) pe_int set_list))
  (pss_cons (ps_if (pt_cmpR op_le (pe_ix ix_list (pv 0) pe_int (fun _ _ => rfl)) (pe_callB call_len_seq rfl T.b_len (by decide +kernel) (pa_cons (pe_ix ix_list (pv 0) pe_int (fun _ _ => rfl)) pa_nil)) (nomark _)) (pss_cons (ps_set (i := 3) sc_law_drawn.nd rfl (Or.inl rfl) (pe_ix ix_seq (pe_ix ix_list (pv 0) pe_int (fun _ _ => rfl)) (pe_op op_sub (pe_ix ix_list (pv 0) pe_int (fun _ _ => rfl)) pe_int) (fun _ _ => rfl)))
  (pss_cons (ps_asg (pe_ifExp (pt_cmpR op_ge (pv 3) (pe_op op_pow pe_int pe_int) (nomark _)) (pe_op op_fdiv (pv 3) (pv 1)) pe_int) (pg_sub (pv 0) pe_int set_list))
  (pss_one (ps_ret (pe_op op_mod (pv 3) (pv 1)))))) (pss_nil))
  (pss_cons (ps_asg (pe_op op_mod (pe_op op_add (pe_op op_mul (pe_ix ix_list (pv 0) pe_int (fun _ _ => rfl)) pe_int) pe_int) pe_int) (pg_sub (pv 0) pe_int set_list))
  (pss_one (ps_ret (pe_op op_mod (pe_op op_fdiv (pe_ix ix_list (pv 0) pe_int (fun _ _ => rfl)) pe_int) (pv 1)))))))), ?_⟩
    have L : ∀ {H' : Hp} {a b d : V}, H' st = some (.lst [.ref sc, a, b, d]) → SqL K H' st [.ref sc, a, b, d] := fun h => SqL.of h
    refine ⟨_, rfl, st, _, _, _, rfl, rfl, L hst, atI_nat (j := 3) rfl, _, _, rfl, rfl, _, rfl, ?_⟩
    refine iteD (fun h3 => ?_) (fun h3 => ?_)
    · refine ⟨_, rfl, st, _, _, _, rfl, rfl, L hst, atI_nat (j := 3) rfl, _, rfl, _, _, rfl, rfl, hm0, ?_⟩
      refine ⟨_, rfl, st, _, _, _, rfl, rfl, L hst, atI_nat (j := 3) rfl, _, rfl, _, _, rfl, rfl, ⟨hm0, hm1⟩, _, rfl, st, _, _, 3, rfl, rfl, hst, rfl, ?_⟩
      refine ⟨_, rfl, q _ _ (Int.emod_nonneg _ (by omega)) (Int.emod_lt_of_pos _ hm0) ⟨fun a o ha e => by rw [upd_ne ha]; exact e, p, x, c / m, upd_same, hp, hx0, hx1, Int.ediv_nonneg hc (by omega), script_upd hS hst⟩⟩
    · refine ⟨_, rfl, st, _, _, _, rfl, rfl, L hst, atI_nat (j := 1) rfl, _, _, rfl, rfl, _, rfl, st, _, _, 1, rfl, rfl, hst, rfl, ?_⟩
      have hst1 : upd H st (.lst [.ref sc, .int (p + 1), .int x, .int c]) st = some (.lst [.ref sc, .int (p + 1), .int x, .int c]) := upd_same
      have hS1 : SqL K (upd H st (.lst [.ref sc, .int (p + 1), .int x, .int c])) sc (ns.map V.int) := script_upd hS hst
      have k1 : ∀ a o, a ≠ st → H a = some o → upd H st (.lst [.ref sc, .int (p + 1), .int x, .int c]) a = some o := fun a o ha e => by rw [upd_ne ha]; exact e
      generalize hH : upd H st (.lst [.ref sc, .int (p + 1), .int x, .int c]) = H1 at hst1 hS1 k1
      show tSeq _ _ _ _ (upd H st (.lst [.ref sc, .int (p + 1), .int x, .int c]))
      rw [hH]
      refine ⟨_, rfl, st, _, _, _, rfl, rfl, L hst1, atI_nat (j := 1) rfl, _, rfl, st, _, _, _, rfl, rfl, L hst1, atI_nat (j := 0) rfl, sc, _, rfl, .inl hS1, _, _, rfl, rfl, _, rfl, ?_⟩
      refine iteD (fun h4 => ?_) (fun h4 => ?_)
      · rw [List.length_map] at h4
        have hj : p.toNat < ns.length := by omega
        have hi : (ns.map V.int)[p.toNat]? = some (.int ns[p.toNat]) := by simp [hj]
        have ep : p + 1 - 1 = ((p.toNat : Nat) : Int) := by omega
        refine ⟨_, rfl, st, _, _, _, rfl, rfl, L hst1, atI_nat (j := 0) rfl, _, rfl, st, _, _, _, rfl, rfl, L hst1, atI_nat (j := 1) rfl, _, _, rfl, rfl, .inl ⟨sc, _, _, _, rfl, rfl, hS1, at_of ep hi, ?_⟩⟩
        generalize ns[p.toNat] = cell
        refine ⟨_, rfl, _, _, rfl, rfl, ⟨by decide, by decide, by decide⟩, _, _, rfl, rfl, _, rfl, ?_⟩
        refine iteD (fun h5 => ?_) (fun h5 => ?_)
        · have h6 : (0 : Int) ≤ cell := Int.le_trans (by decide) h5
          refine ⟨_, rfl, _, rfl, _, _, rfl, rfl, ⟨hm0, hm1⟩, _, rfl, st, _, _, 3, rfl, rfl, hst1, rfl, ?_⟩
          refine ⟨_, rfl, _, rfl, _, _, rfl, rfl, hm0, q _ _ (Int.emod_nonneg _ (by omega)) (Int.emod_lt_of_pos _ hm0) ⟨fun a o ha e => by rw [upd_ne ha]; exact k1 a o ha e, p + 1, x, cell / m, upd_same, by omega, hx0, hx1, Int.ediv_nonneg h6 (by omega), script_upd hS1 hst1⟩⟩
        · refine ⟨_, rfl, st, _, _, 3, rfl, rfl, hst1, rfl, ?_⟩
          refine ⟨_, rfl, _, rfl, _, _, rfl, rfl, hm0, q _ _ (Int.emod_nonneg _ (by omega)) (Int.emod_lt_of_pos _ hm0) ⟨fun a o ha e => by rw [upd_ne ha]; exact k1 a o ha e, p + 1, x, 0, upd_same, by omega, hx0, hx1, by decide, script_upd hS1 hst1⟩⟩
      · refine ⟨_, rfl, st, _, _, _, rfl, rfl, L hst1, atI_nat (j := 2) rfl, _, _, rfl, rfl, .inr ⟨by decide, by decide⟩, _, _, rfl, rfl, _, _, rfl, rfl, (show (0 : Int) < 2147483647 by decide), _, rfl, st, _, _, 2, rfl, rfl, hst1, rfl, ?_⟩
        refine ⟨_, rfl, st, _, _, _, rfl, rfl, SqL.of upd_same, atI_nat (j := 2) rfl, _, _, rfl, rfl, ⟨by decide, by decide⟩, _, rfl, _, _, rfl, rfl, hm0, q _ _ (Int.emod_nonneg _ (by omega)) (Int.emod_lt_of_pos _ hm0) ⟨fun a o ha e => by rw [upd_ne ha]; exact k1 a o ha e, p + 1, _, c, upd_same, by omega, Int.emod_nonneg _ (by decide), Int.emod_lt_of_pos _ (by decide), hc, script_upd hS1 hst1⟩⟩
theorem fn_law_drawn (T : Txt K mg) (Df : Defs K) : Fn P w K mg base CX0 1 "_law_drawn" (spDrawn K) [] := by
  obtain ⟨fd, F⟩ := Df.law_drawn
  exact .of F T.g_law_drawn (bnd0 F fun _ _ _ _ _ _ us hl => match us, hl with | [_, _], _ => rfl) (ok_law_drawn T F)
end
end Lk25


set_option autoImplicit false
set_option Elab.async false
set_option linter.all false
set_option maxRecDepth 100000
set_option maxHeartbeats 4000000
namespace Lk25
open PySem PySem.Spec PyProof.Rows L2 Bm
section
variable {P : Program} {w : World} {K : PySem.W.Frag} {mg : Str → Option Value} {base : Heap}
theorem sc_law_same : FnScope ["_law_found", "_law_due", "_law_alike", "_law_k"] ["_law_found", "_law_due"] (defScope s_law_same) := ⟨rfl, rfl, rfl, by decide +kernel, rfl, by decide +kernel, by decide +kernel⟩
structure CSame (P : Program) (w : World) (K : PySem.W.Frag) (mg : Str → Option Value) (base : Heap) (n : Nat) (sp : Sp) : Prop where
  law_same : Fn P w K mg base CX0 n "_law_same" sp []
theorem step_law_same (T : Txt K mg) {n : Nat} {sp : Sp} (C : CSame P w K mg base n sp) (hsp : ∀ m, n = m + 1 → sp = spSame K m) {f : Addr} {fd : FuncData} (F : FunD K "_law_same" "_law_same" (defArgs s_law_same) (defBody s_law_same) (defScope s_law_same) [] [] f fd) : FnOk P w K mg base CX0 (n + 1) f fd ["_law_found", "_law_due"] (spSame K n) := by
  refine F.ok sc_law_same (fun vs H Q E h => ?_) (fun cdv A outer s H vs Q E hr h => ?_)
  · obtain ⟨v, u, d, rfl, _⟩ := h
    rfl
  · obtain ⟨v, u, d, rfl, hv, hu, hd, q⟩ := h
    refine ⟨_, PSs.nox (pss_cons (ps_if (pt_val (pe_callB call_isiT rfl T.b_isinstance (by decide +kernel) (pa_cons (pv 1) (pa_cons (pe_tup (pa_cons (pe_bltn (v := .ty "tuple") rfl T.b_tuple (by decide +kernel) rfl) (pa_cons (pe_bltn (v := .ty "list") rfl T.b_list (by decide +kernel) rfl) pa_nil))) pa_nil)))) (pss_cons (ps_if (PW.pt (pw_or (pt_not (pt_val (pe_callB call_isiT rfl T.b_isinstance (by decide +kernel) (pa_cons (pv 0) (pa_cons (pe_tup (pa_cons (pe_bltn (v := .ty "tuple") rfl T.b_tuple (by decide +kernel) rfl) (pa_cons (pe_bltn (v := .ty "list") rfl T.b_list (by decide +kernel) rfl) pa_nil))) pa_nil))))) (pw_or1 (pt_cmpR op_ne (pe_callB call_isi rfl T.b_isinstance (by decide +kernel) (pa_cons (pv 0) (pa_cons (pe_bltn (v := .ty "list") rfl T.b_list (by decide +kernel) rfl) pa_nil))) (pe_callB call_isi rfl T.b_isinstance (by decide +kernel) (pa_cons (pv 1) (pa_cons (pe_bltn (v := .ty "list") rfl T.b_list (by decide +kernel) rfl) pa_nil))) (nomark _))))) (pss_one (ps_ret pe_bl)) (pss_nil))
  (pss_cons (ps_if (pt_cmpR op_ne (pe_callB call_len_seq rfl T.b_len (by decide +kernel) (pa_cons (pv 0) pa_nil)) (pe_callB call_len_seq rfl T.b_len (by decide +kernel) (pa_cons (pv 1) pa_nil)) (nomark _)) (pss_one (ps_ret pe_bl)) (pss_nil))
  (pss_one (ps_ret (pe_cmpR (op_eqD hr.units) (pe_lc (own := [("_law_k", 3)]) rfl sc_law_same.nd  (pi_range1 rfl T.b_range (pa_cons (pe_callB call_len_seq rfl T.b_len (by decide +kernel) (pa_cons (pv 1) pa_nil)) pa_nil)) (blkOk_by (own := [("_law_k", 3)]) (N := ["_law_found", "_law_due", "_law_alike", "_law_k"]) (sc := defScope s_law_same) (by decide +kernel)) (fun _ _ _ _ _ => (pg_name (i := 3) sc_law_same.nd rfl (Or.inl rfl))) (fun _ _ _ _ _ => pts_one (pt_not (pt_val (pe_f C.law_same hr (Nat.le_refl _) pass0 (pa_cons (pe_ix (r := rIx K) ix_seq (pv 0) (pv 3) (fun _ _ => rfl)) (pa_cons (pe_ix (r := rIx K) ix_seq (pv 1) (pv 3) (fun _ _ => rfl)) pa_nil)))))) (fun _ _ _ _ _ => (pv 3))) (pe_lst pa_nil) (nomark _)))))) (pss_nil))
  (pss_cons (ps_set (i := 2) sc_law_same.nd rfl (Or.inl rfl) (pe_and (pe_cmpR op_eq (pe_callB call_isi rfl T.b_isinstance (by decide +kernel) (pa_cons (pv 0) (pa_cons (pe_bltn (v := .ty "bool") rfl T.b_bool (by decide +kernel) rfl) pa_nil))) (pe_callB call_isi rfl T.b_isinstance (by decide +kernel) (pa_cons (pv 1) (pa_cons (pe_bltn (v := .ty "bool") rfl T.b_bool (by decide +kernel) rfl) pa_nil))) (nomark _)) (pe_one (pe_cmpR op_eq (pe_callB call_isi rfl T.b_isinstance (by decide +kernel) (pa_cons (pv 0) (pa_cons (pe_bltn (v := .ty "int") rfl T.b_int (by decide +kernel) rfl) pa_nil))) (pe_callB call_isi rfl T.b_isinstance (by decide +kernel) (pa_cons (pv 1) (pa_cons (pe_bltn (v := .ty "int") rfl T.b_int (by decide +kernel) rfl) pa_nil))) (nomark _)))))
  (pss_one (ps_ret (pe_and (pv 2) (pe_one (pe_cmpR op_eq (pv 0) (pv 1) (nomark _)))))))), ?_⟩
    have kv := hv.kd
    have ku := hu.kd
    -- isinstance(due, (tuple, list))
    refine ⟨_, rfl, (show 2 ≤ sizeLine by decide), fun p np => ?_⟩
    have s1 : Same H (upd H p (.tup [.ty "tuple", .ty "list"])) := Same.new np
    refine ⟨_, _, [.ty "tuple", .ty "list"], _, _, _, rfl, upd_same, .cons (.ty "tuple") (.cons (.ty "list") .nil), (ku.same s1).ty, (ku.same s1).any2 (by decide) (by decide), _, rfl, ?_⟩
    rcases dp_seq hu with ⟨ds, eds, hb, b, ys, rfl, hB, hys⟩ | ⟨hb, hfl⟩
    · refine iteBT hb ?_
      obtain ⟨ds', eds', _, a, xs, rfl, hA, hxs⟩ | ⟨hb', _⟩ := dp_seq hv
      rotate_left
      · rw [hb] at hb'
        cases hb'
      rw [eds] at eds'
      cases eds'
      obtain ⟨hdl, m, rfl, hdep⟩ := dep_seq hd eds
      obtain rfl := hsp m rfl
      have hlen : xs.length = ys.length := hxs.length.trans hys.length.symm
      -- not isinstance(found, (tuple, list)) or ..
      refine ⟨_, rfl, (show 2 ≤ sizeLine by decide), fun p2 np2 => ?_⟩
      have s2 : Same H (upd (upd H p (.tup [.ty "tuple", .ty "list"])) p2 (.tup [.ty "tuple", .ty "list"])) := s1.trans (Same.new np2)
      refine ⟨_, _, [.ty "tuple", .ty "list"], _, _, _, rfl, upd_same, .cons (.ty "tuple") (.cons (.ty "list") .nil), (kv.same s2).ty, (kv.same s2).any2 (by decide) (by decide), _, rfl, ?_⟩
      refine iteBF (by rw [hb]; rfl) ?_
      generalize upd (upd H p (.tup [.ty "tuple", .ty "list"])) p2 (.tup [.ty "tuple", .ty "list"]) = H2 at s2
      refine ⟨_, rfl, _, _, _, _, _, rfl, .ty "list", (kv.same s2).ty, (kv.same s2).kit (by decide), ?_⟩
      refine ⟨_, rfl, _, _, _, _, _, rfl, .ty "list", (ku.same s2).ty, (ku.same s2).kit (by decide), rfl, _, rfl, iteNS rfl ?_⟩
      refine ⟨_, rfl, a, xs, rfl, hA.same s2, _, rfl, b, ys, rfl, hB.same s2, rfl, _, rfl, iteNS (by rw [hlen]) ?_⟩
      have hyl : ys.length ≤ 100000 := by
        rw [hys.length]
        exact hdl
      refine ⟨_, rfl, b, ys, rfl, hB.same s2, _, rfl, by omega, by omega, fun D nD => ?_⟩
      refine lc_range (lo := 0) (n := ys.length) (fun i H' => Same H2 H' ∧ H' D = some (.lst [])) ⟨Same.new nD, upd_same⟩ ?_ ?_
      · rintro i H' hi ⟨s3, hD⟩
        have hix : i < xs.length := by omega
        have hid : i < ds.length := by rw [← hxs.length]; exact hix
        obtain ⟨x, ex, hx⟩ := hxs.get (List.getElem?_eq_getElem hid)
        obtain ⟨y, ey, hy⟩ := hys.get (List.getElem?_eq_getElem hid)
        refine ⟨rfl, ?_⟩
        refine ⟨_, rfl, _, rfl, rIx_ok (hA.same (s2.trans s3)) (at0 ex) ?_⟩
        refine ⟨_, rfl, _, rfl, rIx_ok (hB.same (s2.trans s3)) (at0 ey) ?_⟩
        refine ⟨x, y, _, rfl, hx.same (s2.trans s3), hy.same (s2.trans s3), hdep _ (List.getElem_mem hid), fun H5 s5 => ⟨_, rfl, iteF ⟨s3.trans s5, s5 _ _ hD⟩⟩⟩
      · rintro H' ⟨s3, hD⟩
        refine ⟨Nat.zero_le _, fun l hl => ⟨.list [], .list [], .lst (SqL.of ((Same.new hl) _ _ hD)) .nil, .lst (SqL.of upd_same) .nil, rfl, rfl, ?_⟩⟩
        exact q _ ((s2.trans s3).trans (Same.new hl))
    · refine iteBF hb ?_
      obtain ⟨rfl, hsc⟩ := hv.flat_eq hfl hu
      generalize upd H p (.tup [.ty "tuple", .ty "list"]) = H1 at s1
      refine ⟨_, rfl, _, _, _, _, _, rfl, .ty "bool", (kv.same s1).ty, (kv.same s1).kit (by decide), ?_⟩
      refine ⟨_, rfl, _, _, _, _, _, rfl, .ty "bool", (kv.same s1).ty, (kv.same s1).kit (by decide), rfl, _, rfl, iteDT rfl ?_⟩
      refine ⟨_, rfl, _, _, _, _, _, rfl, .ty "int", (kv.same s1).ty, (kv.same s1).kit (by decide), ?_⟩
      refine ⟨_, rfl, _, _, _, _, _, rfl, .ty "int", (kv.same s1).ty, (kv.same s1).kit (by decide), rfl, ?_⟩
      refine ⟨_, rfl, _, rfl, iteDT rfl ⟨_, rfl, _, rfl, hsc, ?_⟩⟩
      show Q (.bl (decide (v = v))) H1
      rw [decide_eq_true rfl]
      exact q _ s1
theorem ok_law_same (T : Txt K mg) {f : Addr} {fd : FuncData} (F : FunD K "_law_same" "_law_same" (defArgs s_law_same) (defBody s_law_same) (defScope s_law_same) [] [] f fd) (g : mg "_law_same" = some (.ref f)) : ∀ n, FnOk P w K mg base CX0 (n + 1) f fd ["_law_found", "_law_due"] (spSame K n)
  | 0 => step_law_same T ⟨.of F g (bnd0 (ps := ["_law_found", "_law_due"]) F fun _ _ _ _ _ _ us hl => match us, hl with | [_, _], _ => rfl) fn_nothing⟩ (fun m e => by cases e) F
  | n + 1 => step_law_same T ⟨.of F g (bnd0 F fun _ _ _ _ _ _ us hl => match us, hl with | [_, _], _ => rfl) (ok_law_same T F g n)⟩ (fun m e => by cases e; rfl) F
theorem fn_law_same (T : Txt K mg) (Df : Defs K) (n : Nat) : Fn P w K mg base CX0 (n + 1) "_law_same" (spSame K n) [] := by
  obtain ⟨fd, F⟩ := Df.law_same
  exact .of F T.g_law_same (bnd0 F fun _ _ _ _ _ _ us hl => match us, hl with | [_, _], _ => rfl) (ok_law_same T F T.g_law_same n)
end
end Lk25


set_option autoImplicit false
set_option Elab.async false
set_option linter.all false
set_option maxRecDepth 100000
set_option maxHeartbeats 4000000
namespace Lk25
open PySem PySem.Spec PyProof.Rows L2 Bm
section
theorem sc_law_kind : FnScope ["_law_work", "e", "_law_kinds", "_law_words", "_law_at"] ["_law_work"] (defScope s_law_kind) := ⟨rfl, rfl, rfl, by decide +kernel, rfl, by decide +kernel, by decide +kernel⟩
set_option maxHeartbeats 8000000 in
theorem kind_gives {X : Cx} (T : Txt X.K X.mg) {q : Str} {g : Addr} {cdg : Value} : LamX.GivesTo X ["_law_work", "e", "_law_kinds", "_law_words", "_law_at"] "_law_kind" (defScope s_law_kind) g cdg (defBody s_law_kind) "_law_work" q (TKind X.K) := by
  intro f c' s H Q tl act hc h
  refine ⟨_, pss_one (ps_try_as (i := 1) (X := (cxOf C8.CX0 X.prog X.w X.K X.mg X.base ["_law_work", "e", "_law_kinds", "_law_words", "_law_at"] "_law_kind" (defScope s_law_kind) g cdg X.A X.stack s H C8.E0).nox) (c := .ref (He.ga X.K "MillError"))
      (tb := fun W D σ H => ∃ Ech : XK, (∀ cls d σ' H', Ech cls d H' → σ'.length = 5 → W cls d σ' H') ∧ σ[0]? = some (some (.ref f)) ∧ H c' = some (LamX.CodeO c' q) ∧ tl Ech H D.rt)
      rfl rfl sc_law_kind.nd rfl rfl ⟨rfl, by decide, .inl T.c_MillError⟩ L2.takes0 (fun W pn xe tk _ => ?_)
      (fun a oe cls d pn hz hf => pss_cons (ps_set (i := 2) sc_law_kind.nd rfl (Or.inl rfl) (pe_lst (pa_cons (pe_callB (call_isX hz hf) rfl T.b_isinstance (by decide +kernel) (pa_cons (pv 1) (pa_cons (pe_glob (v := .ref (He.ga X.K "BadDeed")) rfl T.c_BadDeed rfl) pa_nil))) (pa_cons (pe_callB (call_isX hz hf) rfl T.b_isinstance (by decide +kernel) (pa_cons (pv 1) (pa_cons (pe_glob (v := .ref (He.ga X.K "BadReach")) rfl T.c_BadReach rfl) pa_nil))) (pa_cons (pe_callB (call_isX hz hf) rfl T.b_isinstance (by decide +kernel) (pa_cons (pv 1) (pa_cons (pe_glob (v := .ref (He.ga X.K "NoDeed")) rfl T.c_NoDeed rfl) pa_nil))) (pa_cons (pe_callB (call_isX hz hf) rfl T.b_isinstance (by decide +kernel) (pa_cons (pv 1) (pa_cons (pe_glob (v := .ref (He.ga X.K "BadCount")) rfl T.c_BadCount rfl) pa_nil))) pa_nil))))))
  (pss_cons (ps_set (i := 2) sc_law_kind.nd rfl (Or.inl rfl) (pe_op op_cat (pv 2) (pe_lst (pa_cons (pe_callB (call_isX hz hf) rfl T.b_isinstance (by decide +kernel) (pa_cons (pv 1) (pa_cons (pe_glob (v := .ref (He.ga X.K "NoMend")) rfl T.c_NoMend rfl) pa_nil))) (pa_cons (pe_callB (call_isX hz hf) rfl T.b_isinstance (by decide +kernel) (pa_cons (pv 1) (pa_cons (pe_glob (v := .ref (He.ga X.K "BadImage")) rfl T.c_BadImage rfl) pa_nil))) (pa_cons (pe_callB (call_isX hz hf) rfl T.b_isinstance (by decide +kernel) (pa_cons (pv 1) (pa_cons (pe_glob (v := .ref (He.ga X.K "BadGiven")) rfl T.c_BadGiven rfl) pa_nil))) pa_nil))))))
  (pss_cons (ps_set (i := 2) sc_law_kind.nd rfl (Or.inl rfl) (pe_op op_cat (pv 2) (pe_lst (pa_cons (pe_callB (call_isX hz hf) rfl T.b_isinstance (by decide +kernel) (pa_cons (pv 1) (pa_cons (pe_glob (v := .ref (He.ga X.K "BadList")) rfl T.c_BadList rfl) pa_nil))) (pa_cons (pe_callB (call_isX hz hf) rfl T.b_isinstance (by decide +kernel) (pa_cons (pv 1) (pa_cons (pe_glob (v := .ref (He.ga X.K "BadRow")) rfl T.c_BadRow rfl) pa_nil))) pa_nil)))))
  (pss_cons (ps_set (i := 3) sc_law_kind.nd rfl (Or.inl rfl) (pe_lst (pa_cons pe_str (pa_cons pe_str (pa_cons pe_str (pa_cons pe_str (pa_cons pe_str (pa_cons pe_str (pa_cons pe_str (pa_cons pe_str (pa_cons pe_str pa_nil)))))))))))
  (pss_cons (ps_if (PW.pt (pw_or (pt_cmpR op_ne (pe_bmK X.K (r := rCntF X.K) PySem.F.plainAttrs_list PySem.F.slot_list_count PySem.F.type_list_count mt_lcountF (pv 2) (pa_cons pe_bl pa_nil)) pe_int (nomark _)) (pw_or1 (pt_not (pt_val (pe_callB (call_isX hz hf) rfl T.b_isinstance (by decide +kernel) (pa_cons (pv 1) (pa_cons (pe_bltn (v := .ty "ValueError") rfl T.b_ValueError (by decide +kernel) rfl) pa_nil)))))))) (pss_one (ps_ret pe_str)) (pss_nil))
  (pss_cons (ps_set (i := 4) sc_law_kind.nd rfl (Or.inl rfl) (pe_bmK X.K (r := rIndex X.K) PySem.F.plainAttrs_list PySem.F.slot_list_index PySem.F.type_list_index mt_index (pv 2) (pa_cons pe_bl pa_nil)))
  (pss_cons (ps_if (pt_cmpR op_lt (pv 4) pe_int (nomark _)) (pss_one (ps_ret (pe_ix (r := rIxL X.K) ix_list (pv 3) (pv 4) (fun _ _ => rfl)))) (pss_nil))
  (pss_one (ps_ret (pe_ifExp (pt_cmpR op_lt (pv 4) pe_int (nomark _)) (pe_tup (pa_cons (pe_ix (r := rIxL X.K) ix_list (pv 3) (pv 4) (fun _ _ => rfl)) (pa_cons (pe_xfA hz hf (pv 1)) pa_nil))) (pe_tup (pa_cons (pe_ix (r := rIxL X.K) ix_list (pv 3) (pv 4) (fun _ _ => rfl)) (pa_cons (pe_xfA hz hf (pv 1)) (pa_cons (pe_xfA hz hf (pv 1)) pa_nil))))))))))))))), ?_⟩
  · refine ⟨fun pins s' σ H' D I h' => ?_⟩
    obtain ⟨Ech, hW, h1, h2, h3⟩ := h'
    exact (pss_one (ps_ret (act _ pn xe Ech _ _ (takes_len tk rfl) hW))).run pins s' σ H' D I ⟨h1, h2, h3⟩
  · refine ⟨KindE X.K Q, fun cls d σ' H' hk hl => ?_, rfl, hc, h⟩
    obtain ⟨a0, a1, a2, a3, a4, rfl⟩ : ∃ a0 a1 a2 a3 a4, σ' = [a0, a1, a2, a3, a4] := by
      match σ', hl with
      | [a0, a1, a2, a3, a4], _ => exact ⟨a0, a1, a2, a3, a4, rfl⟩
    obtain ⟨x, hx, rfl, hk⟩ := hk
    refine ⟨true, T.x.exm x hx, fun _ a na => ?_, fun z => by cases z⟩
    have hd : ∀ H'', Same H' H'' → (d = none ∨ ∃ dd fs, d = some dd ∧ H'' dd = some (.xd fs)) := by
      rcases hk with ⟨_, e, _⟩ | ⟨_, dd, fs, v, e, h1, _⟩ | ⟨_, dd, fs, v, u, e, h1, _⟩
      · exact fun _ _ => .inl e
      · exact fun H'' s1 => .inr ⟨dd, fs, e, s1 _ _ h1⟩
      · exact fun H'' s1 => .inr ⟨dd, fs, e, s1 _ _ h1⟩
    have X1 := T.x.exc x hx
    have r0 := Same.refl H'
    have I : ∀ (y : Str) (hy : y ∈ allX), PySem.W.kitOne X.K (.ref (He.ga X.K x)) (.ref (He.ga X.K y)) = some (decide (x = y)) := fun y hy => T.x.kit x hx y hy
    -- kinds = [..4]
    refine ⟨_, rfl, _, _, _, _, rfl, X1, hd _ r0, rfl, (fun u h => h), I "BadDeed" (by decide), _, rfl, _, _, _, _, rfl, X1, hd _ r0, rfl, (fun u h => h), I "BadReach" (by decide), _, rfl, _, _, _, _, rfl, X1, hd _ r0, rfl, (fun u h => h), I "NoDeed" (by decide), _, rfl, _, _, _, _, rfl, X1, hd _ r0, rfl, (fun u h => h), I "BadCount" (by decide), (show 4 ≤ sizeLine by decide), fun l1 n1 => ?_⟩
    have s1 : Same H' (upd H' l1 (.lst (kb x ["BadDeed", "BadReach", "NoDeed", "BadCount"]))) := Same.new n1
    have h1 : (upd H' l1 (.lst (kb x ["BadDeed", "BadReach", "NoDeed", "BadCount"]))) l1 = some (.lst (kb x ["BadDeed", "BadReach", "NoDeed", "BadCount"])) := upd_same
    show tSeq _ _ _ _ (upd H' l1 (.lst (kb x ["BadDeed", "BadReach", "NoDeed", "BadCount"])))
    generalize upd H' l1 (.lst (kb x ["BadDeed", "BadReach", "NoDeed", "BadCount"])) = H1 at s1 h1
    -- kinds = kinds + [..3]
    refine ⟨_, rfl, _, rfl, _, _, _, _, rfl, X1, hd _ s1, rfl, (fun u h => h), I "NoMend" (by decide), _, rfl, _, _, _, _, rfl, X1, hd _ s1, rfl, (fun u h => h), I "BadImage" (by decide), _, rfl, _, _, _, _, rfl, X1, hd _ s1, rfl, (fun u h => h), I "BadGiven" (by decide), (show 3 ≤ sizeLine by decide), fun l2 n2 => ?_⟩
    refine ⟨l1, l2, kb x ["BadDeed", "BadReach", "NoDeed", "BadCount"], kb x ["NoMend", "BadImage", "BadGiven"], rfl, rfl, (Same.new n2) _ _ h1, upd_same, (show 4 + 3 ≤ sizeLine by decide), fun l3 n3 => ?_⟩
    have s3 : Same H' (upd (upd H1 l2 (.lst (kb x ["NoMend", "BadImage", "BadGiven"]))) l3 (.lst (kb x ["BadDeed", "BadReach", "NoDeed", "BadCount", "NoMend", "BadImage", "BadGiven"]))) := (s1.trans (Same.new n2)).trans (Same.new n3)
    have h3 : (upd (upd H1 l2 (.lst (kb x ["NoMend", "BadImage", "BadGiven"]))) l3 (.lst (kb x ["BadDeed", "BadReach", "NoDeed", "BadCount", "NoMend", "BadImage", "BadGiven"]))) l3 = some (.lst (kb x ["BadDeed", "BadReach", "NoDeed", "BadCount", "NoMend", "BadImage", "BadGiven"])) := upd_same
    show tSeq _ _ _ _ (upd (upd H1 l2 (.lst (kb x ["NoMend", "BadImage", "BadGiven"]))) l3 (.lst (kb x ["BadDeed", "BadReach", "NoDeed", "BadCount", "NoMend", "BadImage", "BadGiven"])))
    generalize upd (upd H1 l2 (.lst (kb x ["NoMend", "BadImage", "BadGiven"]))) l3 (.lst (kb x ["BadDeed", "BadReach", "NoDeed", "BadCount", "NoMend", "BadImage", "BadGiven"])) = H3 at s3 h3
    -- kinds = kinds + [..2]
    refine ⟨_, rfl, _, rfl, _, _, _, _, rfl, X1, hd _ s3, rfl, (fun u h => h), I "BadList" (by decide), _, rfl, _, _, _, _, rfl, X1, hd _ s3, rfl, (fun u h => h), I "BadRow" (by decide), (show 2 ≤ sizeLine by decide), fun l4 n4 => ?_⟩
    refine ⟨l3, l4, kb x ["BadDeed", "BadReach", "NoDeed", "BadCount", "NoMend", "BadImage", "BadGiven"], kb x ["BadList", "BadRow"], rfl, rfl, (Same.new n4) _ _ h3, upd_same, (show 7 + 2 ≤ sizeLine by decide), fun l5 n5 => ?_⟩
    have s5 : Same H' (upd (upd H3 l4 (.lst (kb x ["BadList", "BadRow"]))) l5 (.lst (kindsL x))) := (s3.trans (Same.new n4)).trans (Same.new n5)
    have h5 : (upd (upd H3 l4 (.lst (kb x ["BadList", "BadRow"]))) l5 (.lst (kindsL x))) l5 = some (.lst (kindsL x)) := upd_same
    show tSeq _ _ _ _ (upd (upd H3 l4 (.lst (kb x ["BadList", "BadRow"]))) l5 (.lst (kindsL x)))
    generalize upd (upd H3 l4 (.lst (kb x ["BadList", "BadRow"]))) l5 (.lst (kindsL x)) = H5 at s5 h5
    -- words = [..9]
    refine ⟨(show 9 ≤ sizeLine by decide), fun l6 n6 => ?_⟩
    have s6 : Same H' (upd H5 l6 (.lst (allX.map V.str))) := s5.trans (Same.new n6)
    have h6 : (upd H5 l6 (.lst (allX.map V.str))) l6 = some (.lst (allX.map V.str)) := upd_same
    have h5' : (upd H5 l6 (.lst (allX.map V.str))) l5 = some (.lst (kindsL x)) := (Same.new n6) _ _ h5
    show tSeq _ _ _ _ (upd H5 l6 (.lst (allX.map V.str)))
    generalize upd H5 l6 (.lst (allX.map V.str)) = H6 at s6 h6 h5'
    -- if kinds.count(True) != 1 or not isinstance(e, ValueError)
    refine ⟨_, rfl, .inl ⟨rfl, _, SqL.of h5'⟩, l5, _, _, rfl, rfl, SqL.of h5', rfl, kinds_flat x hx, rfl, _, rfl, iteNS (by rw [kinds_count x hx]; rfl) ?_⟩
    refine ⟨_, rfl, _, .ty "ValueError", _, _, rfl, X1, hd _ s6, rfl, (fun u h => h), T.x.kitV x hx, _, rfl, iteF ?_⟩
    -- at = kinds.index(True)
    obtain ⟨j, hj, hj1, hj2, hj3, hp, hn, hw⟩ := kinds_at x hx
    refine ⟨_, rfl, .inl ⟨rfl, _, SqL.of h5'⟩, l5, _, _, j, .bl true, rfl, rfl, SqL.of h5', rfl, kinds_flat x hx, hj1, rfl, (fun m z hm hz => by rw [hj3 m hm] at hz; cases hz; rfl), ?_⟩
    have hat : atI (allX.map V.str) (j : Int) = some (.str x) := atI_nat hj2
    refine ⟨_, rfl, _, _, rfl, rfl, _, rfl, ?_⟩
    rcases hk with ⟨hxp, _, q⟩ | ⟨hxn, dd, fs, v, rfl, hfs, hv, q⟩ | ⟨hxr, dd, fs, v, u, rfl, hfs, hv, hu, q⟩
    · have h5 := hp hxp
      refine iteDT (by omega) ⟨_, rfl, _, rfl, l6, _, _, _, rfl, rfl, SqL.of h6, hat, q _ s6⟩
    · have h5 := hn hxn
      refine iteDF (by omega) ⟨_, rfl, _, _, rfl, rfl, _, rfl, iteDT (by omega) ?_⟩
      obtain ⟨_, _, hno, hX⟩ := T.x.num x hxn
      refine ⟨_, rfl, _, rfl, l6, _, _, _, rfl, rfl, SqL.of h6, hat, _, rfl, rfl, _, dd, fs, v, rfl, hX, hno, rfl, s6 _ _ hfs, hv, (show 2 ≤ sizeLine by decide), fun p np => ?_⟩
      exact q p _ (s6.free np) (s6.trans (Same.new np)) upd_same
    · have h5 := hw hxr
      subst hxr
      refine iteDF (by omega) ⟨_, rfl, _, _, rfl, rfl, _, rfl, iteDF (by omega) ?_⟩
      refine ⟨_, rfl, _, rfl, l6, _, _, _, rfl, rfl, SqL.of h6, hat, _, rfl, rfl, _, dd, fs, v, rfl, T.x.rowX, T.x.rowR, rfl, s6 _ _ hfs, hv, _, rfl, rfl, _, dd, fs, u, rfl, T.x.rowX, T.x.rowW, rfl, s6 _ _ hfs, hu, (show 3 ≤ sizeLine by decide), fun p np => ?_⟩
      exact q p _ (s6.free np) (s6.trans (Same.new np)) upd_same
end
end Lk25


set_option autoImplicit false
set_option Elab.async false
set_option linter.all false
set_option maxRecDepth 100000
set_option maxHeartbeats 4000000
namespace Lk25
open PySem PySem.Spec PyProof.Rows L2 Bm
section
variable {P : Program} {w : World} {K : PySem.W.Frag} {mg : Str → Option Value} {base : Heap}
theorem sc_Numbered_init : FnScope ["self", "number"] ["self", "number"] (defScope s_Numbered_init) := ⟨rfl, rfl, rfl, by decide +kernel, rfl, by decide +kernel, by decide +kernel⟩
theorem ok_num_init (T : Txt K mg) {f : Addr} {fd : FuncData} (F : FunD K "__init__" "Numbered.__init__" (defArgs s_Numbered_init) (defBody s_Numbered_init) (defScope s_Numbered_init) [] [] f fd) : FnOk P w K mg base CX0 1 f fd ["self", "number"] (spNumI K) := by
  refine F.ok sc_Numbered_init (fun vs H Q E h => ?_) (fun cdv A outer s H vs Q E hr h => ?_)
  · obtain ⟨a, C, v, rfl, _⟩ := h
    rfl
  · obtain ⟨a, C, v, rfl, O, hno, ha, q⟩ := h
    refine ⟨_, PSs.nox (pss_cons (ps_expr (pe_minit rfl T.c_MillError T.x.mS T.x.mR T.x.mV (pa_cons (pv 0) (pa_cons pe_str pa_nil)))) (pss_one (ps_ost (pv 0) (pv 1)))), ?_⟩
    refine ⟨_, rfl, a, C, _, rfl, (show 1 ≤ 1000 by decide), O, ha, _, rfl, _, rfl, a, C, rfl, O, hno, .inl ⟨ha, fun dx ndx nea => q dx ndx nea⟩⟩
structure NumI (P : Program) (w : World) (K : PySem.W.Frag) (mg : Str → Option Value) (base : Heap) : Prop where
  ex : ∃ fd, FnOk P w K mg base CX0 1 (He.ma K (He.ga K "Numbered") "__init__") fd ["self", "number"] (spNumI K) ∧ L2.Binds K fd ["self", "number"] []
theorem num_I (T : Txt K mg) (Df : Defs K) : NumI P w K mg base := by
  obtain ⟨fd, F⟩ := Df.Numbered_init
  exact ⟨fd, ok_num_init T F, F.bindsN fun _ _ _ _ _ _ us hl => match us, hl with | [_, _], _ => rfl⟩
/-- raise x(e), x one of BadImage, BadGiven, BadList -/
theorem pmk_num {X : Cx} {j : Nat} {e : Expr} {ta : TA} {p pos : Pos} (T : Txt X.K X.mg) (x : Str) (hx : x ∈ numX) (hm : X.mg x = some (.ref (He.ga X.K x))) (N : NumI X.prog X.w X.K X.mg X.base) (hr : Room j X.A) (hj : 2 ≤ j) (ha : PA X [e] ta) (hg : Gl X x := by rfl) (hdb : (x == ("__debug__" : Str)) = false := by decide)
    (he : starEach [e] X.env = (false, eval e X.env) :: starEach [] X.env := by rfl) (hpl : (backTo pos (starEach [] X.env)).any (·.1) = false := by rfl) :
    PMk X (.Call (.Name x p) [e] [] pos) (tMkO (He.ga X.K x) (spNumI X.K) [] ta) := by
  obtain ⟨fd, F, b⟩ := N.ex
  obtain ⟨O, iC, _, _⟩ := T.x.num x hx
  exact pmk_oex O iC T.x.tyN F (hr.mono hj) b .nil pass0 hg hm ha hdb he hpl
end
section
variable {P : Program} {w : World} {K : PySem.W.Frag} {mg : Str → Option Value} {base : Heap}
structure CNeed (P : Program) (w : World) (K : PySem.W.Frag) (mg : Str → Option Value) (base : Heap) : Prop where
  is_whole : Fn P w K mg base CX0 1 "is_whole" (spWhole K) []
theorem sc_need_words : FnScope ["image", "number", "word"] ["image"] (defScope s_need_words) := ⟨rfl, rfl, rfl, by decide +kernel, rfl, by decide +kernel, by decide +kernel⟩
theorem ok_need_words (T : Txt K mg) (C : CNeed P w K mg base) (FN : NumI P w K mg base) {f : Addr} {fd : FuncData} (F : FunD K "need_words" "need_words" (defArgs s_need_words) (defBody s_need_words) (defScope s_need_words) [] [] f fd) : FnOk P w K mg base (L2.CX P w) 3 f fd ["image"] (spNeed K 200) := by
  refine F.ok sc_need_words (fun vs H Q E h => ?_) (fun cdv A outer s H vs Q E hr h => ?_)
  · obtain ⟨a, xs, rfl, _⟩ := h
    rfl
  · obtain ⟨a, xs, rfl, hS, hK, q1, q2⟩ := h
    refine ⟨_, pss_one (ps_for (passes_of rfl) rfl (pi_enumA rfl T.b_enumerate (pa_cons (pv 0) pa_nil)) (pg_tup rfl (pgs_cons (pg_name (i := 1) sc_need_words.nd rfl (Or.inl rfl)) (pgs_cons (pg_name (i := 2) sc_need_words.nd rfl (Or.inl rfl)) pgs_nil))) (pss_one (ps_if (PW.pt (pw_or (pt_cmpR op_eq (pv 1) (pe_gc rfl T.i_MOST_WORDS) (nomark _)) (pw_or1 (pt_not (pt_val (pe_f C.is_whole hr (by decide) pass0 (pa_cons (pv 2) (pa_cons pe_int (pa_cons (pe_gc rfl T.i_LAST) pa_nil))))))))) (pss_one (ps_raise rfl (takes_of rfl rfl rfl rfl) (pmk_num T "BadImage" (by decide) T.c_BadImage FN hr (by decide) (pa_cons (pv 1) pa_nil)))) (pss_nil)))), ?_⟩
    refine ⟨_, rfl, a, xs, rfl, for_enum hS (fun i σ H' => Same H H' ∧ firstBad 200 (xs.drop i) i = firstBad 200 xs 0 ∧ ∃ v1 v2, σ = [some (.ref a), v1, v2]) ⟨Same.refl _, rfl, none, none, rfl⟩ (fun i σ H' _ p o e => p.1 _ _ e) ?_ ?_⟩
    · rintro i x t σ H' hx ⟨s1, e1, v1, v2, rfl⟩ nt
      have s2 := s1.trans (Same.new (o := .tup [.int (i : Nat), x]) nt)
      refine ⟨t, _, rfl, SqT.of upd_same, rfl, _, _, rfl, _, _, rfl, rfl, ?_⟩
      obtain ⟨n, kx⟩ := hK x (List.mem_of_getElem? hx)
      have e2 := fb_step (m := 200) hx
      rw [e1] at e2
      refine ⟨_, rfl, rfl, _, rfl, ?_⟩
      have bad : (decide (i = 200) || !isWhole x 0 65535) = true → ∀ d, (upd H' t (.tup [.int (i : Nat), x])) d = none → E (.ref (He.ga K "BadImage")) (some d) (upd (upd H' t (.tup [.int (i : Nat), x])) d (.xd [("number", .int (i : Nat))])) := fun hb d nd => by
        rw [if_pos hb] at e2
        exact (q2 i e2).go s2 nd
      refine iteD (fun h200 => ?_) (fun h200 => ?_)
      · refine iteT ⟨_, rfl, num_ok (T.x.num "BadImage" (by decide)).1 (T.x.num "BadImage" (by decide)).2.2.1 (Q := fun cls d H => E cls d H) (bad ?_)⟩
        rw [show i = 200 by have z := V.int.inj h200; omega]
        rfl
      · have hne : i ≠ 200 := fun z => h200 (by rw [z]; rfl)
        refine ⟨_, rfl, x, n, 0, 65535, rfl, kx.same s2, _, rfl, ?_⟩
        refine iteB (fun hb => ?_) (fun hb => ?_)
        · refine ⟨_, rfl, num_ok (T.x.num "BadImage" (by decide)).1 (T.x.num "BadImage" (by decide)).2.2.1 (Q := fun cls d H => E cls d H) (bad ?_)⟩
          rw [hb, Bool.or_true]
        · refine ⟨s2, ?_, _, _, rfl⟩
          rw [e2, hb, decide_eq_false hne, if_neg (by decide)]
    · rintro σ H' ⟨s1, e1, v1, v2, rfl⟩
      rw [List.drop_length] at e1
      exact q1 e1.symm _ s1
theorem fn_need_words (T : Txt K mg) (Df : Defs K) : Fn P w K mg base (L2.CX P w) 3 "need_words" (spNeed K 200) [] := by
  obtain ⟨fd, F⟩ := Df.need_words
  exact .of F T.g_need_words (bnd0 F fun _ _ _ _ _ _ us hl => match us, hl with | [_], _ => rfl) (ok_need_words T ⟨fn_is_whole3 T Df⟩ (num_I T Df) F)
end
end Lk25


set_option autoImplicit false
set_option Elab.async false
set_option linter.all false
set_option maxRecDepth 100000
set_option maxHeartbeats 4000000
namespace Lk25
open PySem PySem.Spec PyProof.Rows L2 Bm
section
variable {P : Program} {w : World} {K : PySem.W.Frag} {mg : Str → Option Value} {base : Heap}
theorem sc_columns_of : FnScope ["words", "found", "word"] ["words"] (defScope s_columns_of) := ⟨rfl, rfl, rfl, by decide +kernel, rfl, by decide +kernel, by decide +kernel⟩
theorem ok_columns_of {f : Addr} {fd : FuncData} (F : FunD K "columns_of" "columns_of" (defArgs s_columns_of) (defBody s_columns_of) (defScope s_columns_of) [] [] f fd) : FnOk P w K mg base CX0 1 f fd ["words"] (spCols K) := by
  refine F.ok sc_columns_of (fun vs H Q E h => ?_) (fun cdv A outer s H vs Q E hr h => ?_)
  · obtain ⟨a, ws, rfl, _⟩ := h
    rfl
  · obtain ⟨a, ws, rfl, hS, q⟩ := h
    refine ⟨_, PSs.nox (pss_cons (ps_set (i := 1) sc_columns_of.nd rfl (Or.inl rfl) pe_int)
  (pss_cons (ps_for PassesOwn.never rfl (pi_seq (pv 0)) (pg_name (i := 2) sc_columns_of.nd rfl (Or.inl rfl)) (pss_one (ps_aug (i := 1) sc_columns_of.nd rfl (Or.inl rfl) (pv 2) (pip_of iop_xorN))))
  (pss_one (ps_ret (pv 1))))), ?_⟩
    refine ⟨_, rfl, a, rfl, for_seq hS (fun i σ H' => H' = H ∧ ∃ v, σ = [some (.ref a), some (.int (((ws.take i).foldl (fun a b => a ^^^ b) 0 : Nat) : Int)), v]) ⟨rfl, none, rfl⟩ (fun i σ H' _ p o e => p.1 ▸ e) ?_ ?_⟩
    · rintro i x σ H' hx ⟨rfl, v, rfl⟩
      obtain ⟨n, hn, rfl⟩ := wsV_get hx
      refine ⟨_, rfl, _, rfl, _, n, rfl, rfl, rfl, some (.int (n : Int)), ?_⟩
      rw [List.take_add_one, hn, List.foldl_append]
      rfl
    · rintro σ H' ⟨rfl, v, rfl⟩
      rw [show (wsV ws).length = ws.length from List.length_map .., List.take_length]
      exact ⟨_, rfl, q⟩
theorem fn_columns_of (T : Txt K mg) (Df : Defs K) : Fn P w K mg base CX0 1 "columns_of" (spCols K) [] := by
  obtain ⟨fd, F⟩ := Df.columns_of
  exact .of F T.g_columns_of (bnd0 F fun _ _ _ _ _ _ us hl => match us, hl with | [_], _ => rfl) (ok_columns_of F)
structure CSeal (P : Program) (w : World) (K : PySem.W.Frag) (mg : Str → Option Value) (base : Heap) : Prop where
  is_odd : Fn P w K mg base CX0 1 "is_odd" spOdd []
  is_whole : Fn P w K mg base CX0 1 "is_whole" (spWhole K) []
  columns_of : Fn P w K mg base CX0 1 "columns_of" (spCols K) []
theorem c_seal (T : Txt K mg) (Df : Defs K) : CSeal P w K mg base := ⟨fn_is_odd T Df, fn_is_whole3 T Df, fn_columns_of T Df⟩
theorem sc_marks_of : FnScope ["words", "found", "at", "word"] ["words"] (defScope s_marks_of) := ⟨rfl, rfl, rfl, by decide +kernel, rfl, by decide +kernel, by decide +kernel⟩
theorem ok_marks_of (T : Txt K mg) (C : CSeal P w K mg base) {f : Addr} {fd : FuncData} (F : FunD K "marks_of" "marks_of" (defArgs s_marks_of) (defBody s_marks_of) (defScope s_marks_of) [] [] f fd) : FnOk P w K mg base CX0 2 f fd ["words"] (spMarks K) := by
  refine F.ok sc_marks_of (fun vs H Q E h => ?_) (fun cdv A outer s H vs Q E hr h => ?_)
  · obtain ⟨a, ws, rfl, _⟩ := h
    rfl
  · obtain ⟨a, ws, rfl, hS, hl, q⟩ := h
    refine ⟨_, PSs.nox (pss_cons (ps_set (i := 1) sc_marks_of.nd rfl (Or.inl rfl) pe_int)
  (pss_cons (ps_for PassesOwn.never rfl (pi_enumA rfl T.b_enumerate (pa_cons (pv 0) pa_nil)) (pg_tup rfl (pgs_cons (pg_name (i := 2) sc_marks_of.nd rfl (Or.inl rfl)) (pgs_cons (pg_name (i := 3) sc_marks_of.nd rfl (Or.inl rfl)) pgs_nil))) (pss_one (ps_aug (i := 1) sc_marks_of.nd rfl (Or.inl rfl) (pe_op op_shlNN (pe_callTy call_int1 rfl T.b_int (by decide +kernel) (pa_cons (pe_f C.is_odd hr (by decide) pass0 (pa_cons (pv 3) pa_nil)) pa_nil)) (pv 2)) (pip_of iop_orN))))
  (pss_one (ps_ret (pe_op op_orN (pv 1) (pe_op op_shlNN (pe_callTy call_int1 rfl T.b_int (by decide +kernel) (pa_cons (pe_f C.is_odd hr (by decide) pass0 (pa_cons (pe_f C.columns_of hr (by decide) pass0 (pa_cons (pv 0) pa_nil)) pa_nil)) pa_nil)) (pe_gc rfl T.i_MOST_BLOCK))))))), ?_⟩
    refine ⟨_, rfl, a, wsV ws, rfl, for_enum hS (fun i σ H' => Same H H' ∧ ∃ (acc : Nat) (v1 v2 : Option V), σ = [some (.ref a), some (.int (acc : Int)), v1, v2] ∧ marksA (ws.drop i) i acc = marksA ws 0 0) ⟨Same.refl _, 0, none, none, rfl, rfl⟩ (fun i σ H' _ p o e => p.1 _ _ e) ?_ ?_⟩
    · rintro i x t σ H' hx ⟨s1, acc, v1, v2, rfl, e1⟩ nt
      obtain ⟨n, hn, rfl⟩ := wsV_get hx
      have hi : i < ws.length := (List.getElem?_eq_some_iff.mp hn).1
      refine ⟨t, _, rfl, SqT.of upd_same, rfl, _, _, rfl, _, _, rfl, rfl, ?_⟩
      refine ⟨_, rfl, _, rfl, n, rfl, .inr ⟨_, rfl, _, rfl, (oddB n).toNat, i, b2n _, rfl, ⟨b2n_lt _, by omega⟩, _, _, rfl, rfl, s1.trans (Same.new nt), _, _, _, rfl, ?_⟩⟩
      rw [← e1, drop_at hn]
      rfl
    · rintro σ H' ⟨s1, acc, v1, v2, rfl, e1⟩
      rw [show (wsV ws).length = ws.length from List.length_map .., List.drop_length] at e1
      have e1 : acc = marksA ws 0 0 := e1
      subst e1
      refine ⟨_, rfl, _, rfl, a, ws, rfl, hS.same s1, _, rfl, .inr ⟨_, rfl, (oddB (cols ws)).toNat, 14, b2n _, rfl, ⟨b2n_lt _, by decide⟩, _, _, rfl, rfl, q _ s1⟩⟩
theorem fn_marks_of (T : Txt K mg) (Df : Defs K) : Fn P w K mg base CX0 2 "marks_of" (spMarks K) [] := by
  obtain ⟨fd, F⟩ := Df.marks_of
  exact .of F T.g_marks_of (bnd0 F fun _ _ _ _ _ _ us hl => match us, hl with | [_], _ => rfl) (ok_marks_of T (c_seal T Df) F)
end
end Lk25


set_option autoImplicit false
set_option Elab.async false
set_option linter.all false
set_option maxRecDepth 100000
set_option maxHeartbeats 4000000
namespace Lk25
open PySem PySem.Spec PyProof.Rows L2 Bm
section
variable {P : Program} {w : World} {K : PySem.W.Frag} {mg : Str → Option Value} {base : Heap}
structure CBlock (P : Program) (w : World) (K : PySem.W.Frag) (mg : Str → Option Value) (base : Heap) : Prop where
  columns_of : Fn P w K mg base CX0 1 "columns_of" (spCols K) []
  marks_of : Fn P w K mg base CX0 2 "marks_of" (spMarks K) []
theorem sc_block_of : FnScope ["words"] ["words"] (defScope s_block_of) := ⟨rfl, rfl, rfl, by decide +kernel, rfl, by decide +kernel, by decide +kernel⟩
theorem ok_block_of (T : Txt K mg) (C : CBlock P w K mg base) {f : Addr} {fd : FuncData} (F : FunD K "block_of" "block_of" (defArgs s_block_of) (defBody s_block_of) (defScope s_block_of) [] [] f fd) : FnOk P w K mg base CX0 3 f fd ["words"] (spBlock K) := by
  refine F.ok sc_block_of (fun vs H Q E h => ?_) (fun cdv A outer s H vs Q E hr h => ?_)
  · obtain ⟨a, ws, rfl, _⟩ := h
    rfl
  · obtain ⟨a, ws, rfl, hS, hl, q⟩ := h
    refine ⟨_, PSs.nox (pss_one (ps_ret (pe_op op_catA (pe_callTy call_tuple_of rfl T.b_tuple (by decide +kernel) (pa_cons (pv 0) pa_nil)) (pe_tup (pa_cons (pe_f C.columns_of hr (by decide) pass0 (pa_cons (pv 0) pa_nil)) (pa_cons (pe_f C.marks_of hr (by decide) pass0 (pa_cons (pv 0) pa_nil)) pa_nil)))))), ?_⟩
    have key : ∀ t H1, Same H H1 → SqT K H1 t (wsV ws) → (fun (x : V) (H1 : Hp) => tTup (tCons (tCall (spCols K) [] E0 (tCons (tVar 0) tNil)) (tCons (tCall (spMarks K) [] E0 (tCons (tVar 0) tNil)) tNil)) (L2.start ["words"] [.ref a]) H1 fun y H2 => rCatA K x y H2 Q) (.ref t) H1 := by
      intro t H1 s1 hT
      refine ⟨_, rfl, a, ws, rfl, hS.same s1, _, rfl, a, ws, rfl, hS.same s1, hl, fun H2 s2 => ⟨(show 2 ≤ sizeLine by decide), fun p np => ?_⟩⟩
      have s3 : Same H (upd H2 p (.tup [.int ((cols ws : Nat) : Int), .int ((marks ws : Nat) : Int)])) := (s1.trans s2).trans (Same.new np)
      refine ⟨t, p, wsV ws, _, rfl, rfl, (s2.trans (Same.new np)).seqT hT, SqT.of upd_same, ?_, fun e => ?_, fun _ e => (by cases e), fun _ _ r nr => ?_⟩
      · rw [show (wsV ws).length = ws.length from List.length_map ..]
        show ws.length + 2 ≤ sizeLine
        exact Nat.le_trans (Nat.add_le_add_right hl 2) (by decide)
      · cases ws with
        | nil => exact q p _ s3 upd_same
        | cons x r => cases e
      · refine q r _ (s3.trans (Same.new nr)) ?_
        rw [upd_same]
        unfold wsV
        rw [List.map_append]
        rfl
    rcases id hS with hL | hT
    · exact ⟨_, rfl, a, wsV ws, rfl, .inl ⟨hL, fun t nt => key t _ (Same.new nt) (SqT.of upd_same)⟩⟩
    · exact ⟨_, rfl, a, wsV ws, rfl, .inr ⟨hT, key a _ (Same.refl _) hT⟩⟩
theorem fn_block_of (T : Txt K mg) (Df : Defs K) : Fn P w K mg base CX0 3 "block_of" (spBlock K) [] := by
  obtain ⟨fd, F⟩ := Df.block_of
  exact .of F T.g_block_of (bnd0 F fun _ _ _ _ _ _ us hl => match us, hl with | [_], _ => rfl) (ok_block_of T ⟨fn_columns_of T Df, fn_marks_of T Df⟩ F)
structure CSealed (P : Program) (w : World) (K : PySem.W.Frag) (mg : Str → Option Value) (base : Heap) : Prop where
  need_words : Fn P w K mg base (L2.CX P w) 3 "need_words" (spNeed K 200) []
  block_of : Fn P w K mg base CX0 3 "block_of" (spBlock K) []
theorem sc_sealed : FnScope ["image", "at"] ["image"] (defScope s_sealed) := ⟨rfl, rfl, rfl, by decide +kernel, rfl, by decide +kernel, by decide +kernel⟩
theorem ok_sealed (T : Txt K mg) (C : CSealed P w K mg base) {f : Addr} {fd : FuncData} (F : FunD K "sealed" "sealed" (defArgs s_sealed) (defBody s_sealed) (defScope s_sealed) [] [] f fd) : FnOk P w K mg base (L2.CX P w) 4 f fd ["image"] (spSealed K) := by
  refine F.ok sc_sealed (fun vs H Q E h => ?_) (fun cdv A outer s H vs Q E hr h => ?_)
  · obtain ⟨a, xs, rfl, _⟩ := h
    rfl
  · obtain ⟨a, xs, rfl, hS, hK, q1, q2⟩ := h
    refine ⟨_, pss_cons (ps_expr (pe_f C.need_words hr (by decide) (passes_call (takes_of rfl rfl rfl rfl) fun _ _ _ _ h => h) (pa_cons (pv 0) pa_nil)))
  (pss_one (ps_ret (pe_lc (own := [("at", 1)]) rfl sc_sealed.nd  (pi_range3 rfl T.b_range (pa_cons pe_int (pa_cons (pe_callB call_len_seq rfl T.b_len (by decide +kernel) (pa_cons (pv 0) pa_nil)) (pa_cons (pe_gc rfl T.i_MOST_BLOCK) pa_nil)))) (blkOk_by (own := [("at", 1)]) (N := ["image", "at"]) (sc := defScope s_sealed) (by decide +kernel)) (fun _ _ _ _ _ => (pg_name (i := 1) sc_sealed.nd rfl (Or.inl rfl))) (fun _ _ _ _ _ => pts_nil) (fun _ _ _ _ _ => (pe_f C.block_of hr (by decide) pass0 (pa_cons (pe_slice (r := rSlAny K) sl_any (pv 0) (po_some (pv 1)) (po_some (pe_op op_add (pv 1) (pe_gc rfl T.i_MOST_BLOCK)))) pa_nil)))))), ?_⟩
    refine ⟨_, rfl, a, xs, rfl, hS, hK, fun hb H1 s1 => ?_, fun i hi => q1 i hi⟩
    obtain ⟨ws, rfl, hw, hl⟩ := bad_none hb (by decide)
    have hl : ws.length ≤ 200 := by omega
    have hlen : (wsV ws).length = ws.length := List.length_map ..
    refine ⟨_, rfl, a, _, rfl, hS.same s1, 0, ((ws.length : Nat) : Int), 14, (ws.length + 13) / 14, (by rw [hlen]), rgC_up (c := 14) (by decide) (by decide) (by omega), fun D nD => ?_⟩
    refine lc_it walk_rangeC (fun i H' => Same H1 H' ∧ ∃ ys, H' D = some (.lst ys) ∧ BlkAt H' ws ys i) ⟨Same.new nD, [], upd_same, rfl, fun k hk => by omega⟩ (fun _ _ _ _ => trivial) ?_ ?_
    · rintro i x H2 H3 hi ⟨s2, ys, hD, hB⟩ ⟨rfl, rfl⟩
      have hi2 : i * 14 < ws.length := by omega
      have e : cutV (wsV ws) (some (0 + ((i : Nat) : Int) * 14)) (some (0 + ((i : Nat) : Int) * 14 + 14)) = wsV (chunk ws i) := by
        rw [show (0 + ((i : Nat) : Int) * 14) = ((i * 14 : Nat) : Int) by omega, show (((i * 14 : Nat) : Int) + 14) = ((i * 14 + 14 : Nat) : Int) by omega, cut_nat, wsV_cut, Nat.add_sub_cancel_left]
        rfl
      refine ⟨rfl, _, rfl, _, rfl, _, rfl, _, rfl, _, _, rfl, rfl, _, rfl, slAny_ok (hS.same (s1.trans s2)) fun p H4 s4 hp => ?_⟩
      rw [e] at hp
      refine ⟨p, chunk ws i, rfl, hp, (by unfold chunk; rw [List.length_take]; omega), fun r H5 s5 hr5 => ⟨ys, s5 _ _ (s4 _ _ hD), ?_, ?_, _, upd_same, ?_⟩⟩
      · rw [hB.1]
        exact Nat.lt_of_lt_of_le (show i < 100 by omega) (by decide)
      · exact ((s2.trans s4).trans s5).mut nD
      · have hne : ∀ {q : Addr} {zs : List V}, H5 q = some (.tup zs) → q ≠ D := fun h z => by
          rw [z, s5 _ _ (s4 _ _ hD)] at h
          cases h
        refine ⟨by rw [List.length_append, hB.1]; rfl, fun k hk => ?_⟩
        by_cases hki : k < i
        · obtain ⟨q, e1, e2⟩ := hB.2 k hki
          have e3 := s5 _ _ (s4 _ _ e2)
          exact ⟨q, by rw [List.getElem?_append_left (by rw [hB.1]; exact hki)]; exact e1, by rw [upd_ne (hne e3)]; exact e3⟩
        · have ek : k = i := by omega
          subst ek
          exact ⟨r, by rw [List.getElem?_append_right (by rw [hB.1]; exact Nat.le_refl _), hB.1, Nat.sub_self]; rfl, by rw [upd_ne (hne hr5)]; exact hr5⟩
    · rintro H2 ⟨s2, ys, hD, hB⟩
      exact q2 ws rfl hw hl D H2 ys (s1.free nD) (s1.trans s2) hD hB.dp
theorem fn_sealed (T : Txt K mg) (Df : Defs K) : Fn P w K mg base (L2.CX P w) 4 "sealed" (spSealed K) [] := by
  obtain ⟨fd, F⟩ := Df.sealed
  exact .of F T.g_sealed (bnd0 F fun _ _ _ _ _ _ us hl => match us, hl with | [_], _ => rfl) (ok_sealed T ⟨fn_need_words T Df, fn_block_of T Df⟩ F)
end
end Lk25


set_option autoImplicit false
set_option Elab.async false
set_option linter.all false
set_option maxRecDepth 100000
set_option maxHeartbeats 4000000
namespace Lk25
open PySem PySem.Spec PyProof.Rows L2 Bm
section
variable {P : Program} {w : World} {K : PySem.W.Frag} {mg : Str → Option Value} {base : Heap}
theorem sc_need_block : FnScope ["block", "number", "word"] ["block"] (defScope s_need_block) := ⟨rfl, rfl, rfl, by decide +kernel, rfl, by decide +kernel, by decide +kernel⟩
theorem ok_need_block (T : Txt K mg) (C : CNeed P w K mg base) (FN : NumI P w K mg base) {f : Addr} {fd : FuncData} (F : FunD K "need_block" "need_block" (defArgs s_need_block) (defBody s_need_block) (defScope s_need_block) [] [] f fd) : FnOk P w K mg base (L2.CX P w) 3 f fd ["block"] (spNeedB K) := by
  refine F.ok sc_need_block (fun vs H Q E h => ?_) (fun cdv A outer s H vs Q E hr h => ?_)
  · obtain ⟨a, xs, rfl, _⟩ := h
    rfl
  · obtain ⟨a, xs, rfl, hS, hK, q2, q3, q1⟩ := h
    refine ⟨_, pss_cons (ps_for (passes_of rfl) rfl (pi_enumA rfl T.b_enumerate (pa_cons (pv 0) pa_nil)) (pg_tup rfl (pgs_cons (pg_name (i := 1) sc_need_block.nd rfl (Or.inl rfl)) (pgs_cons (pg_name (i := 2) sc_need_block.nd rfl (Or.inl rfl)) pgs_nil))) (pss_one (ps_if (PW.pt (pw_or (pt_cmpR op_eq (pv 1) (pe_op op_add (pe_gc rfl T.i_MOST_BLOCK) pe_int) (nomark _)) (pw_or1 (pt_not (pt_val (pe_f C.is_whole hr (by decide) pass0 (pa_cons (pv 2) (pa_cons pe_int (pa_cons (pe_gc rfl T.i_LAST) pa_nil))))))))) (pss_one (ps_raise rfl (takes_of rfl rfl rfl rfl) (pmk_num T "BadImage" (by decide) T.c_BadImage FN hr (by decide) (pa_cons (pv 1) pa_nil)))) (pss_nil))))
  (pss_one (ps_if (pt_cmpR op_lt (pe_callB call_len_seq rfl T.b_len (by decide +kernel) (pa_cons (pv 0) pa_nil)) pe_int (nomark _)) (pss_one (ps_raise rfl (takes_of rfl rfl rfl rfl) (pmk_num T "BadImage" (by decide) T.c_BadImage FN hr (by decide) (pa_cons (pe_callB call_len_seq rfl T.b_len (by decide +kernel) (pa_cons (pv 0) pa_nil)) pa_nil)))) (pss_nil))), ?_⟩
    refine ⟨_, rfl, a, xs, rfl, for_enum hS (fun i σ H' => Same H H' ∧ firstBad 16 (xs.drop i) i = firstBad 16 xs 0 ∧ ∃ v1 v2, σ = [some (.ref a), v1, v2]) ⟨Same.refl _, rfl, none, none, rfl⟩ (fun i σ H' _ p o e => p.1 _ _ e) ?_ ?_⟩
    · rintro i x t σ H' hx ⟨s1, e1, v1, v2, rfl⟩ nt
      have s2 := s1.trans (Same.new (o := .tup [.int (i : Nat), x]) nt)
      refine ⟨t, _, rfl, SqT.of upd_same, rfl, _, _, rfl, _, _, rfl, rfl, ?_⟩
      obtain ⟨n, kx⟩ := hK x (List.mem_of_getElem? hx)
      have e2 := fb_step (m := 16) hx
      rw [e1] at e2
      refine ⟨_, rfl, _, _, rfl, rfl, rfl, _, rfl, ?_⟩
      have bad : (decide (i = 16) || !isWhole x 0 65535) = true → ∀ d, (upd H' t (.tup [.int (i : Nat), x])) d = none → E (.ref (He.ga K "BadImage")) (some d) (upd (upd H' t (.tup [.int (i : Nat), x])) d (.xd [("number", .int (i : Nat))])) := fun hb d nd => by
        rw [if_pos hb] at e2
        exact (q2 i e2).go s2 nd
      refine iteD (fun h16 => ?_) (fun h16 => ?_)
      · refine iteT ⟨_, rfl, num_ok (T.x.num "BadImage" (by decide)).1 (T.x.num "BadImage" (by decide)).2.2.1 (Q := fun cls d H => E cls d H) (bad ?_)⟩
        rw [show i = 16 by have z := V.int.inj h16; omega]
        rfl
      · have hne : i ≠ 16 := fun z => h16 (by rw [z]; rfl)
        refine ⟨_, rfl, x, n, 0, 65535, rfl, kx.same s2, _, rfl, ?_⟩
        refine iteB (fun hb => ?_) (fun hb => ?_)
        · refine ⟨_, rfl, num_ok (T.x.num "BadImage" (by decide)).1 (T.x.num "BadImage" (by decide)).2.2.1 (Q := fun cls d H => E cls d H) (bad ?_)⟩
          rw [hb, Bool.or_true]
        · refine ⟨s2, ?_, _, _, rfl⟩
          rw [e2, hb, decide_eq_false hne, if_neg (by decide)]
    · rintro σ H' ⟨s1, e1, v1, v2, rfl⟩
      rw [List.drop_length] at e1
      have e1 := e1.symm
      refine ⟨_, rfl, a, xs, rfl, hS.same s1, _, _, rfl, rfl, _, rfl, ?_⟩
      refine iteD (fun h3 => ?_) (fun h3 => ?_)
      · exact ⟨_, rfl, a, xs, rfl, hS.same s1, num_ok (T.x.num "BadImage" (by decide)).1 (T.x.num "BadImage" (by decide)).2.2.1 (Q := fun cls d H => E cls d H) fun d nd => (q3 e1 (by omega)).go s1 nd⟩
      · exact q1 e1 (by omega) _ s1
theorem fn_need_block (T : Txt K mg) (Df : Defs K) : Fn P w K mg base (L2.CX P w) 3 "need_block" (spNeedB K) [] := by
  obtain ⟨fd, F⟩ := Df.need_block
  exact .of F T.g_need_block (bnd0 F fun _ _ _ _ _ _ us hl => match us, hl with | [_], _ => rfl) (ok_need_block T ⟨fn_is_whole3 T Df⟩ (num_I T Df) F)
theorem sc_bits_in : FnScope ["word", "at"] ["word"] (defScope s_bits_in) := ⟨rfl, rfl, rfl, by decide +kernel, rfl, by decide +kernel, by decide +kernel⟩
theorem ok_bits_in (T : Txt K mg) {f : Addr} {fd : FuncData} (F : FunD K "bits_in" "bits_in" (defArgs s_bits_in) (defBody s_bits_in) (defScope s_bits_in) [] [] f fd) : FnOk P w K mg base CX0 1 f fd ["word"] spBits := by
  refine F.ok sc_bits_in (fun vs H Q E h => ?_) (fun cdv A outer s H vs Q E hr h => ?_)
  · obtain ⟨n, rfl, _⟩ := h
    rfl
  · obtain ⟨n, rfl, hn, q⟩ := h
    refine ⟨_, PSs.nox (pss_one (ps_ret (pe_lc (own := [("at", 1)]) rfl sc_bits_in.nd  (pi_range1 rfl T.b_range (pa_cons (pe_bits (pv 0)) pa_nil)) (blkOk_by (own := [("at", 1)]) (N := ["word", "at"]) (sc := defScope s_bits_in) (by decide +kernel)) (fun _ _ _ _ _ => (pg_name (i := 1) sc_bits_in.nd rfl (Or.inl rfl))) (fun _ _ _ _ _ => pts_one (pt_cmpR op_eq (pe_op op_andN (pe_op op_shrNN (pv 0) (pv 1)) pe_int) pe_int (nomark _))) (fun _ _ _ _ _ => (pv 1))))), ?_⟩
    have hb := bits_le hn
    refine ⟨_, rfl, _, rfl, _, rfl, by omega, by omega, fun D nD => ?_⟩
    refine lc_range (lo := 0) (n := Builtin.Int.intBits ((n : Nat) : Int)) (fun i H' => Same H H' ∧ H' D = some (.lst (wsV ((List.range i).filter fun k => n.testBit k)))) ⟨Same.new nD, upd_same⟩ ?_ ?_
    · rintro i H' hi ⟨s1, hD⟩
      refine ⟨rfl, _, rfl, _, rfl, n, i, rfl, (by rw [Int.zero_add]), trivial, _, 1, rfl, rfl, rfl, _, rfl, ?_⟩
      refine iteB (fun hb => ?_) (fun hb => ?_)
      · have hb : decide (V.int (((n / 2 ^ i &&& 1 : Nat)) : Int) = V.int 1) = true := hb
        rw [bit1] at hb
        refine ⟨_, rfl, _, hD, ?_, s1.mut nD, ?_⟩
        · unfold wsV
          rw [List.length_map]
          exact Nat.lt_of_le_of_lt (Nat.le_trans (List.length_filter_le ..) (by rw [List.length_range]; exact (show i ≤ 60 by omega))) (by decide)
        · rw [upd_same, List.range_succ, List.filter_append, List.filter_cons, if_pos hb, Int.zero_add]
          unfold wsV
          rw [List.map_append]
          rfl
      · have hb : decide (V.int (((n / 2 ^ i &&& 1 : Nat)) : Int) = V.int 1) = false := hb
        rw [bit1] at hb
        refine ⟨s1, ?_⟩
        rw [hD, List.range_succ, List.filter_append, List.filter_cons, if_neg (by rw [hb]; decide), List.filter_nil, List.append_nil]
    · rintro H' ⟨s1, hD⟩
      exact q D H' nD s1 hD
theorem fn_bits_in (T : Txt K mg) (Df : Defs K) : Fn P w K mg base CX0 1 "bits_in" spBits [] := by
  obtain ⟨fd, F⟩ := Df.bits_in
  exact .of F T.g_bits_in (bnd0 F fun _ _ _ _ _ _ us hl => match us, hl with | [_], _ => rfl) (ok_bits_in T F)
end
end Lk25


set_option autoImplicit false
set_option Elab.async false
set_option linter.all false
set_option maxRecDepth 100000
set_option maxHeartbeats 4000000
namespace Lk25
open PySem PySem.Spec PyProof.Rows L2 Bm
section
variable {P : Program} {w : World} {K : PySem.W.Frag} {mg : Str → Option Value} {base : Heap}
structure CMend (P : Program) (w : World) (K : PySem.W.Frag) (mg : Str → Option Value) (base : Heap) : Prop where
  need_block : Fn P w K mg base (L2.CX P w) 3 "need_block" (spNeedB K) []
  bits_in : Fn P w K mg base CX0 1 "bits_in" spBits []
  columns_of : Fn P w K mg base CX0 1 "columns_of" (spCols K) []
  is_odd : Fn P w K mg base CX0 1 "is_odd" spOdd []
theorem sc_mended : FnScope ["block", "many", "words", "columns", "at", "odd_rows", "rows", "word"] ["block"] (defScope s_mended) := ⟨rfl, rfl, rfl, by decide +kernel, rfl, by decide +kernel, by decide +kernel⟩
set_option maxHeartbeats 16000000 in
theorem ok_mended (T : Txt K mg) (C : CMend P w K mg base) {f : Addr} {fd : FuncData} (F : FunD K "mended" "mended" (defArgs s_mended) (defBody s_mended) (defScope s_mended) [] [] f fd) : FnOk P w K mg base (L2.CX P w) 4 f fd ["block"] (spMended K) := by
  refine F.ok sc_mended (fun vs H Q E h => ?_) (fun cdv A outer s H vs Q E hr h => ?_)
  · obtain ⟨a, xs, rfl, _⟩ := h
    rfl
  · obtain ⟨a, xs, rfl, hS, hK, q1, q2, q3, q4⟩ := h
    refine ⟨_, pss_cons (ps_expr (pe_f C.need_block hr (by decide) (passes_call (takes_of rfl rfl rfl rfl) fun _ _ _ _ h => h) (pa_cons (pv 0) pa_nil)))
  (pss_cons (ps_set (i := 1) sc_mended.nd rfl (Or.inl rfl) (pe_op op_subN (pe_callB call_len_seq rfl T.b_len (by decide +kernel) (pa_cons (pv 0) pa_nil)) pe_int))
  (pss_cons (ps_set (i := 2) sc_mended.nd rfl (Or.inl rfl) (pe_callTy call_list_of rfl T.b_list (by decide +kernel) (pa_cons (pe_slice sl_any (pv 0) po_none (po_some (pv 1))) pa_nil)))
  (pss_cons (ps_set (i := 3) sc_mended.nd rfl (Or.inl rfl) (pe_f C.bits_in hr (by decide) pass0 (pa_cons (pe_f C.columns_of hr (by decide) pass0 (pa_cons (pe_slice sl_any (pv 0) po_none (po_some (pe_op op_addNN (pv 1) pe_int))) pa_nil)) pa_nil)))
  (pss_cons (ps_set (i := 5) sc_mended.nd rfl (Or.inl rfl) (pe_op op_cat (pe_lc (own := [("at", 4), ("word", 7)]) (g := gTup K 2 (gCons (gName 4) (gCons (gName 7) gNil))) rfl sc_mended.nd  (pi_enumA rfl T.b_enumerate (pa_cons (pv 2) pa_nil)) (blkOk_by (own := [("at", 4), ("word", 7)]) (N := ["block", "many", "words", "columns", "at", "odd_rows", "rows", "word"]) (sc := defScope s_mended) (by decide +kernel)) (fun _ _ _ _ _ => (pg_tup rfl (pgs_cons (pg_name (i := 4) sc_mended.nd rfl (Or.inl rfl)) (pgs_cons (pg_name (i := 7) sc_mended.nd rfl (Or.inl rfl)) pgs_nil)))) (fun _ _ _ _ _ => pts_nil) (fun _ _ _ _ _ => (pe_op op_shlNN (pe_callTy call_int1 rfl T.b_int (by decide +kernel) (pa_cons (pe_f C.is_odd hr (by decide) pass0 (pa_cons (pv 7) pa_nil)) pa_nil)) (pv 4)))) (pe_lst (pa_cons (pe_op op_shlNN (pe_callTy call_int1 rfl T.b_int (by decide +kernel) (pa_cons (pe_f C.is_odd hr (by decide) pass0 (pa_cons (pe_ix ix_seq (pv 0) (pv 1) (fun _ _ => rfl)) pa_nil)) pa_nil)) (pe_gc rfl T.i_MOST_BLOCK)) pa_nil))))
  (pss_cons (ps_set (i := 6) sc_mended.nd rfl (Or.inl rfl) (pe_f C.bits_in hr (by decide) pass0 (pa_cons (pe_op op_xorN (pe_callB (cr_sum rfl) rfl T.b_sum (by decide +kernel) (pa_cons (pv 5) pa_nil)) (pe_ix ix_seq (pv 0) (pe_op op_addNN (pv 1) pe_int) (fun _ _ => rfl))) pa_nil)))
  (pss_cons (ps_if (PW.pt (pw_and (pt_cmpR (op_eqD hr.units) (pv 6) (pe_lst pa_nil) (nomark _)) (pw_and1 (pt_cmpR (op_eqD hr.units) (pv 3) (pe_lst pa_nil) (nomark _))))) (pss_one (ps_ret (pe_tup (pa_cons (pe_callTy call_tuple_of rfl T.b_tuple (by decide +kernel) (pa_cons (pv 2) pa_nil)) (pa_cons pe_non pa_nil))))) (pss_nil))
  (pss_cons (ps_if (PW.pt (pw_or (pt_cmpR op_ne (pe_callB call_len_seq rfl T.b_len (by decide +kernel) (pa_cons (pv 6) pa_nil)) pe_int (nomark _)) (pw_or1 (pt_cmpR op_gt (pe_callB call_len_seq rfl T.b_len (by decide +kernel) (pa_cons (pv 3) pa_nil)) pe_int (nomark _))))) (pss_one (ps_raise rfl (takes_of rfl rfl rfl rfl) (pmk_own PySem.F.excBase_ValueError (T.x.plain "NoMend" (by decide)).1 T.c_NoMend (T.x.plain "NoMend" (by decide)).2.1 (raises_own (T.x.plain "NoMend" (by decide)).2.2.1 (T.x.plain "NoMend" (by decide)).2.2.2) rfl))) (pss_nil))
  (pss_cons (ps_set (i := 4) sc_mended.nd rfl (Or.inl rfl) (pe_ix ix_list (pv 6) pe_int (fun _ _ => rfl)))
  (pss_cons (ps_if (pt_cmpR (op_eqD hr.units) (pv 3) (pe_lst pa_nil) (nomark _)) (pss_one (ps_ret (pe_tup (pa_cons (pe_callTy call_tuple_of rfl T.b_tuple (by decide +kernel) (pa_cons (pv 2) pa_nil)) (pa_cons (pe_tup (pa_cons (pe_op op_addNN (pv 1) pe_int) (pa_cons (pv 4) pa_nil))) pa_nil))))) (pss_nil))
  (pss_cons (ps_if (pt_cmpR op_lt (pv 4) (pv 1) (nomark _)) (pss_cons (ps_augS (pv 2) (pv 4) get_list (pe_op op_shlNN pe_int (pe_ix ix_list (pv 3) pe_int (fun _ _ => rfl))) (pip_of iop_xorN) set_list)
  (pss_one (ps_ret (pe_tup (pa_cons (pe_callTy call_tuple_of rfl T.b_tuple (by decide +kernel) (pa_cons (pv 2) pa_nil)) (pa_cons (pe_tup (pa_cons (pv 4) (pa_cons (pe_ix ix_list (pv 3) pe_int (fun _ _ => rfl)) pa_nil))) pa_nil)))))) (pss_nil))
  (pss_cons (ps_if (pt_cmpR op_ne (pv 4) (pe_gc rfl T.i_MOST_BLOCK) (nomark _)) (pss_one (ps_raise rfl (takes_of rfl rfl rfl rfl) (pmk_own PySem.F.excBase_ValueError (T.x.plain "NoMend" (by decide)).1 T.c_NoMend (T.x.plain "NoMend" (by decide)).2.1 (raises_own (T.x.plain "NoMend" (by decide)).2.2.1 (T.x.plain "NoMend" (by decide)).2.2.2) rfl))) (pss_nil))
  (pss_one (ps_ret (pe_tup (pa_cons (pe_callTy call_tuple_of rfl T.b_tuple (by decide +kernel) (pa_cons (pv 2) pa_nil)) (pa_cons (pe_tup (pa_cons (pv 1) (pa_cons (pe_ix ix_list (pv 3) pe_int (fun _ _ => rfl)) pa_nil))) pa_nil)))))))))))))))), ?_⟩
    refine ⟨_, rfl, a, xs, rfl, hS, hK, q1, q2, fun hb h3 H1 s1 => ?_⟩
    obtain ⟨b, rfl, hw, hl⟩ := bad_none hb (by decide)
    have hlen : (wsV b).length = b.length := List.length_map ..
    rw [hlen] at h3
    have hl : b.length ≤ 16 := by omega
    -- many = len(block) - 2
    refine ⟨_, rfl, a, _, rfl, hS.same s1, b.length, 2, (by rw [hlen]), rfl, (by omega), ?_⟩
    obtain ⟨m, hm⟩ : ∃ m, m = b.length - 2 := ⟨_, rfl⟩
    rw [← hm]
    -- words = list(block[:many])
    refine ⟨_, rfl, _, rfl, _, rfl, slAny_ok (hS.same s1) fun p H2 s2 hp => ⟨p, _, rfl, hp, fun lw nw => ?_⟩⟩
    rw [cut_to, show (wsV b).take m = wsV (b.take m) from (List.map_take ..).symm]
    have s3 : Same H (upd H2 lw (.lst (wsV (b.take m)))) := (s1.trans s2).trans (Same.new nw)
    have hlw : (upd H2 lw (.lst (wsV (b.take m)))) lw = some (.lst (wsV (b.take m))) := upd_same
    show tSeq _ _ _ _ (upd H2 lw (.lst (wsV (b.take m))))
    generalize upd H2 lw (.lst (wsV (b.take m))) = H3 at s3 hlw
    have hbm : m < b.length := by omega
    have hbm1 : m + 1 < b.length := by omega
    have em : b[m]? = some (b.getD m 0) := by rw [List.getD_eq_getElem?_getD, List.getElem?_eq_getElem hbm]; rfl
    have em1 : b[m + 1]? = some (b.getD (m + 1) 0) := by rw [List.getD_eq_getElem?_getD, List.getElem?_eq_getElem hbm1]; rfl
    have wm : ∀ {k n : Nat}, b[k]? = some n → (wsV b)[k]? = some (.int ((n : Nat) : Int)) := fun h => by
      unfold wsV
      rw [List.getElem?_map, h]
      rfl
    have hd16 : b.getD (m + 1) 0 < 2 ^ 16 := hw _ (List.mem_of_getElem? em1)
    have hcl : cols (b.take (m + 1)) < 2 ^ 16 := cols_lt (fun w h => hw w (List.mem_of_mem_take h)) (by decide)
    have hrl : rowsW (b.take m) (b.getD m 0) ^^^ b.getD (m + 1) 0 < 2 ^ 16 := Nat.xor_lt_two_pow (Nat.lt_of_lt_of_le (rowsW_lt (by rw [List.length_take]; omega)) (by decide)) hd16
    -- columns = bits_in(columns_of(block[:many + 1]))
    refine ⟨_, rfl, _, rfl, _, 1, rfl, rfl, _, rfl, slAny_ok (hS.same s3) fun p4 H4 s4 hp4 => ?_⟩
    have hp4 : SqA K H4 p4 (wsV (b.take (m + 1))) := by
      rw [cut_to] at hp4
      rw [show wsV (b.take (m + 1)) = (wsV b).take (m + 1) from List.map_take ..]
      exact hp4
    refine ⟨p4, b.take (m + 1), rfl, hp4, _, rfl, Nat.lt_of_lt_of_le hcl (by decide), fun lc H5 nc s5 hlc => ?_⟩
    have hnlc : lw ≠ lc := ne_of_none (s4 _ _ hlw) nc
    have s5 : Same H3 H5 := s4.trans s5
    have hlw := s5 _ _ hlw
    -- odd_rows = ..
    refine ⟨_, rfl, lw, wsV (b.take m), rfl, lc_enum (.inl (SqL.of hlw)) (fun D i H' => Same H5 H' ∧ H' D = some (.lst (wsV ((rowsA (b.take m) 0).take i)))) (fun D nD => ⟨Same.new nD, upd_same⟩) (fun D i H' nD hi p o e => p.1 _ _ e) ?_ ?_⟩
    · rintro D i x t H' nD hx ⟨s6, hD⟩ nt
      obtain ⟨n, hn, rfl⟩ := wsV_get hx
      have hi : i < b.length := Nat.lt_of_lt_of_le (List.getElem?_eq_some_iff.mp hn).1 (by rw [List.length_take]; omega)
      refine ⟨t, _, rfl, SqT.of upd_same, rfl, _, _, rfl, _, _, rfl, rfl, rfl, ?_⟩
      refine ⟨_, rfl, n, rfl, .inr ⟨_, rfl, _, rfl, (oddB n).toNat, i, b2n _, rfl, ⟨b2n_lt _, by omega⟩, _, (Same.new nt) _ _ hD, ?_, (s6.trans (Same.new nt)).mut nD, ?_⟩⟩
      · unfold wsV
        rw [List.length_map, List.length_take]
        exact Nat.lt_of_le_of_lt (Nat.min_le_left ..) (Nat.lt_of_lt_of_le (show i < 16 by omega) (by decide))
      · rw [upd_same, List.take_add_one, rowsA_get hn, Nat.zero_add]
        unfold wsV
        rw [List.map_append]
        rfl
    rintro D H6 nD ⟨s6, hD⟩
    have hrow : (rowsA (b.take m) 0).take (wsV (b.take m)).length = rowsA (b.take m) 0 := List.take_of_length_le (by rw [rowsA_len]; exact Nat.le_of_eq (List.length_map ..).symm)
    rw [hrow] at hD
    refine ⟨_, rfl, _, rfl, rIx_ok (hS.same ((s3.trans s5).trans s6)) (atI_nat (wm em)) ⟨_, rfl, .inr ⟨_, rfl, (oddB (b.getD m 0)).toNat, 14, b2n _, rfl, ⟨b2n_lt _, by decide⟩, (show 1 ≤ sizeLine by decide), fun l1 n1 => ?_⟩⟩⟩
    refine ⟨D, l1, _, _, rfl, rfl, (Same.new n1) _ _ hD, upd_same, ?_, fun lo no => ?_⟩
    · rw [show (wsV (rowsA (b.take m) 0)).length = (rowsA (b.take m) 0).length from List.length_map .., rowsA_len, List.length_take]
      show min m b.length + 1 ≤ sizeLine
      exact Nat.le_trans (show min m b.length + 1 ≤ 17 by omega) (by decide)
    have hsum : wsV (rowsA (b.take m) 0) ++ [V.int (((oddB (b.getD m 0)).toNat * 2 ^ 14 : Nat) : Int)] = ((rowsA (b.take m) 0 ++ [(oddB (b.getD m 0)).toNat * 2 ^ 14]).map fun n : Nat => ((n : Nat) : Int)).map V.int := by
      rw [← wsV_int]
      unfold wsV
      rw [List.map_append]
      rfl
    have s7 : Same H5 (upd (upd H6 l1 (.lst [V.int (((oddB (b.getD m 0)).toNat * 2 ^ 14 : Nat) : Int)])) lo (.lst (wsV (rowsA (b.take m) 0) ++ [V.int (((oddB (b.getD m 0)).toNat * 2 ^ 14 : Nat) : Int)]))) := (s6.trans (Same.new n1)).trans (Same.new no)
    have hlo : (upd (upd H6 l1 (.lst [V.int (((oddB (b.getD m 0)).toNat * 2 ^ 14 : Nat) : Int)])) lo (.lst (wsV (rowsA (b.take m) 0) ++ [V.int (((oddB (b.getD m 0)).toNat * 2 ^ 14 : Nat) : Int)]))) lo = some (.lst (wsV (rowsA (b.take m) 0) ++ [V.int (((oddB (b.getD m 0)).toNat * 2 ^ 14 : Nat) : Int)])) := upd_same
    show tSeq _ _ _ _ (upd (upd H6 l1 (.lst [V.int (((oddB (b.getD m 0)).toNat * 2 ^ 14 : Nat) : Int)])) lo (.lst (wsV (rowsA (b.take m) 0) ++ [V.int (((oddB (b.getD m 0)).toNat * 2 ^ 14 : Nat) : Int)])))
    generalize upd (upd H6 l1 (.lst [V.int (((oddB (b.getD m 0)).toNat * 2 ^ 14 : Nat) : Int)])) lo (.lst (wsV (rowsA (b.take m) 0) ++ [V.int (((oddB (b.getD m 0)).toNat * 2 ^ 14 : Nat) : Int)])) = H7 at s7 hlo
    rw [hsum] at hlo
    -- rows = bits_in(sum(odd_rows) ^ block[many + 1])
    refine ⟨_, rfl, lo, _, rfl, SqL.of hlo, _, rfl, _, rfl, _, 1, rfl, rfl, rIx_ok (hS.same ((s3.trans s5).trans s7)) (atI_nat (wm em1)) ⟨rowsW (b.take m) (b.getD m 0), b.getD (m + 1) 0, (by rw [sum_wsV]; rfl), rfl, _, rfl, Nat.lt_of_lt_of_le hrl (by decide), fun lr H8 nr s8 hlr => ?_⟩⟩
    have hlw := s8 _ _ (s7 _ _ hlw)
    have hlc := s8 _ _ (s7 _ _ hlc)
    have s9 : Same H H8 := ((s3.trans s5).trans s7).trans s8
    have eR : mendR b = (if bitsOf (rowsW (b.take m) (b.getD m 0) ^^^ b.getD (m + 1) 0) = [] ∧ bitsOf (cols (b.take (m + 1))) = [] then some (b.take m, none) else if (bitsOf (rowsW (b.take m) (b.getD m 0) ^^^ b.getD (m + 1) 0)).length ≠ 1 ∨ 1 < (bitsOf (cols (b.take (m + 1)))).length then none
        else if bitsOf (cols (b.take (m + 1))) = [] then some (b.take m, some (m + 1, (bitsOf (rowsW (b.take m) (b.getD m 0) ^^^ b.getD (m + 1) 0)).getD 0 0)) else if (bitsOf (rowsW (b.take m) (b.getD m 0) ^^^ b.getD (m + 1) 0)).getD 0 0 < m then some ((b.take m).set ((bitsOf (rowsW (b.take m) (b.getD m 0) ^^^ b.getD (m + 1) 0)).getD 0 0) ((b.take m).getD ((bitsOf (rowsW (b.take m) (b.getD m 0) ^^^ b.getD (m + 1) 0)).getD 0 0) 0 ^^^ 1 * 2 ^ (bitsOf (cols (b.take (m + 1)))).getD 0 0), some ((bitsOf (rowsW (b.take m) (b.getD m 0) ^^^ b.getD (m + 1) 0)).getD 0 0, (bitsOf (cols (b.take (m + 1)))).getD 0 0))
        else if (bitsOf (rowsW (b.take m) (b.getD m 0) ^^^ b.getD (m + 1) 0)).getD 0 0 ≠ 14 then none else some (b.take m, some (m, (bitsOf (cols (b.take (m + 1)))).getD 0 0))) := by
      unfold mendR
      rw [hm]
    have hc60 : ∀ k ∈ bitsOf (cols (b.take (m + 1))), k < 16 := bitsOf_lt hcl
    have hmlen : (b.take m).length = m := by rw [List.length_take]; omega
    generalize bitsOf (rowsW (b.take m) (b.getD m 0) ^^^ b.getD (m + 1) 0) = rs at hlr eR
    generalize bitsOf (cols (b.take (m + 1))) = cs at hlc eR hc60
    generalize hbt : b.take m = bw at hlw eR hmlen
    have q3 : mendR b = none → ∀ H', Same H H' → E (.ref (He.ga K "NoMend")) none H' := q3 b rfl hw h3 hl
    have q4 : ∀ r, mendR b = some r → ∀ v H', Same H H' → Dp K H' v (mendD r) → Q v H' := fun r => q4 b r rfl hw h3 hl
    rw [eR] at q3 q4
    clear eR hrow hsum hlo hD s7 s6 nD
    -- if rows == [] and columns == []
    refine Evl.q_when (Evl.et_and (et_eqnil rfl hlr) fun _ => et_eqnil rfl hlc) (fun hb1 G1 (e1 : Same H8 G1) => ?_) (fun hb1 G1 (e1 : Same H8 G1) => ?_)
    · have hb2 : rs = [] ∧ cs = [] := by simpa using hb1
      refine ⟨_, rfl, lw, _, rfl, .inl ⟨SqL.of (e1 _ _ hlw), fun t nt => ⟨(show 2 ≤ sizeLine by decide), fun p np => ?_⟩⟩⟩
      refine q4 _ (if_pos hb2) _ _ (((s9.trans e1).trans (Same.new nt)).trans (Same.new np)) (.tup (SqT.of upd_same) (.cons (.tup (SqT.of ((Same.new np) _ _ upd_same)) (dpAll_ws _)) (.cons .non .nil)))
    have hb2 : ¬ (rs = [] ∧ cs = []) := fun z => by rw [decide_eq_true z.1, decide_eq_true z.2] at hb1; cases hb1
    rw [if_neg hb2] at q3 q4
    have hlw := e1 _ _ hlw
    have hlr := e1 _ _ hlr
    have hlc := e1 _ _ hlc
    have s10 := s9.trans e1
    -- if len(rows) != 1 or len(columns) > 1
    refine Evl.q_when (Evl.et_or (et_lenNe rfl hlr 1) fun _ => et_lenGt rfl hlc 1) (fun hb3 G2 (e2 : Same G1 G2) => ?_) (fun hb3 G2 (e2 : Same G1 G2) => ?_)
    · have hb4 : rs.length ≠ 1 ∨ 1 < cs.length := by simpa using hb3
      exact q3 (if_pos hb4) _ (s10.trans e2)
    have hb4 : ¬ (rs.length ≠ 1 ∨ 1 < cs.length) := by simpa using hb3
    rw [if_neg hb4] at q3 q4
    have hlw := e2 _ _ hlw
    have hlr := e2 _ _ hlr
    have hlc := e2 _ _ hlc
    have s11 := s10.trans e2
    obtain ⟨k, rfl⟩ : ∃ k, rs = [k] := by
      match rs, hb4 with
      | [k], _ => exact ⟨k, rfl⟩
      | [], h => exact absurd (Or.inl (by decide)) h
      | a :: b :: r, h => exact absurd (Or.inl (by simp)) h
    -- at = rows[0]
    refine ⟨_, rfl, lr, _, _, _, rfl, rfl, SqL.of hlr, atI_nat (j := 0) rfl, ?_⟩
    -- if columns == []
    refine Evl.q_when (et_eqnil rfl hlc) (fun hb5 G3 (e3 : Same G2 G3) => ?_) (fun hb5 G3 (e3 : Same G2 G3) => ?_)
    · have hb6 : cs = [] := by simpa using hb5
      refine ⟨_, rfl, lw, _, rfl, .inl ⟨SqL.of (e3 _ _ hlw), fun t nt => ⟨_, rfl, _, 1, rfl, rfl, _, rfl, (show 2 ≤ sizeLine by decide), fun p np => ⟨(show 2 ≤ sizeLine by decide), fun p2 np2 => ?_⟩⟩⟩⟩
      refine q4 _ (if_pos hb6) _ _ ((((s11.trans e3).trans (Same.new nt)).trans (Same.new np)).trans (Same.new np2)) (.tup (SqT.of upd_same) (.cons (.tup (SqT.of ((Same.new np2) _ _ ((Same.new np) _ _ upd_same))) (dpAll_ws _)) (.cons (.tup (SqT.of ((Same.new np2) _ _ upd_same)) (.cons (.int _) (.cons (.int _) .nil))) .nil)))
    have hb6 : ¬ cs = [] := by simpa using hb5
    rw [if_neg hb6] at q3 q4
    have hlw := e3 _ _ hlw
    have hlc := e3 _ _ hlc
    have s12 := s11.trans e3
    obtain ⟨c0, cr, rfl⟩ : ∃ c0 cr, cs = c0 :: cr := by
      cases cs with
      | nil => exact absurd rfl hb6
      | cons c0 cr => exact ⟨c0, cr, rfl⟩
    have hc0 : c0 < 16 := hc60 c0 List.mem_cons_self
    -- if at < many
    refine ⟨_, rfl, _, rfl, _, _, rfl, rfl, _, rfl, ?_⟩
    refine iteD (fun hk => ?_) (fun hk => ?_)
    · have hk : k < m := by omega
      rw [if_pos (show [k].getD 0 0 < m from hk)] at q4
      have ebw : bw[k]? = some (bw.getD k 0) := by rw [List.getD_eq_getElem?_getD, List.getElem?_eq_getElem (by omega)]; rfl
      have ewv : (wsV bw)[k]? = some (.int ((bw.getD k 0 : Nat) : Int)) := by
        unfold wsV
        rw [List.getElem?_map, ebw]
        rfl
      have hset : ∀ x : Nat, (wsV bw).set k (.int ((x : Nat) : Int)) = wsV (bw.set k x) := fun x => by
        unfold wsV
        rw [List.map_set]
      refine ⟨_, rfl, _, rfl, lw, _, _, _, rfl, rfl, SqL.of hlw, atI_nat ewv, _, rfl, lc, _, _, _, rfl, rfl, SqL.of hlc, atI_nat (j := 0) rfl, 1, c0, rfl, rfl, ⟨by decide, by omega⟩, _, _, rfl, rfl, lw, _, _, k, rfl, rfl, hlw, Evl.ixN_nat (by unfold wsV; rw [List.length_map]; omega), ?_⟩
      rw [hset]
      have hnw : H lw = none := by
        cases e : H lw with
        | none => rfl
        | some o => exact absurd (((s1.trans s2) _ _ e).symm.trans nw) (by simp)
      refine ⟨_, rfl, lw, _, rfl, .inl ⟨SqL.of upd_same, fun t nt => ⟨_, rfl, _, rfl, lc, wsV (c0 :: cr), _, _, rfl, rfl, ?_, atI_nat (j := 0) rfl, (show 2 ≤ sizeLine by decide), fun p np => ⟨(show 2 ≤ sizeLine by decide), fun p2 np2 => ?_⟩⟩⟩⟩
      · refine SqL.of ((Same.new nt) _ _ ?_)
        rw [upd_ne hnlc.symm]
        exact hlc
      · refine q4 _ rfl _ _ ((((s12.mut hnw).trans (Same.new nt)).trans (Same.new np)).trans (Same.new np2)) (.tup (SqT.of upd_same) (.cons (.tup (SqT.of ((Same.new np2) _ _ ((Same.new np) _ _ upd_same))) (dpAll_ws _)) (.cons (.tup (SqT.of ((Same.new np2) _ _ upd_same)) (.cons (.int _) (.cons (.int _) .nil))) .nil)))
    · have hk : ¬ k < m := by omega
      rw [if_neg (show ¬ [k].getD 0 0 < m from hk)] at q3 q4
      refine ⟨_, rfl, rfl, _, rfl, ?_⟩
      refine iteB (fun h14 => ?_) (fun h14 => ?_)
      · have h14 : (!decide (V.int ((k : Nat) : Int) = V.int ((14 : Nat) : Int))) = true := h14
        rw [dec_intN] at h14
        have h15 : k ≠ 14 := by simpa using h14
        exact q3 (if_pos h15) _ s12
      · have h14 : (!decide (V.int ((k : Nat) : Int) = V.int ((14 : Nat) : Int))) = false := h14
        rw [dec_intN] at h14
        have h15 : ¬ k ≠ 14 := by simpa using h14
        rw [if_neg (show ¬ [k].getD 0 0 ≠ 14 from h15)] at q4
        refine ⟨_, rfl, lw, _, rfl, .inl ⟨SqL.of hlw, fun t nt => ⟨_, rfl, _, rfl, lc, _, _, _, rfl, rfl, SqL.of ((Same.new nt) _ _ hlc), atI_nat (j := 0) rfl, (show 2 ≤ sizeLine by decide), fun p np => ⟨(show 2 ≤ sizeLine by decide), fun p2 np2 => ?_⟩⟩⟩⟩
        refine q4 _ rfl _ _ (((s12.trans (Same.new nt)).trans (Same.new np)).trans (Same.new np2)) (.tup (SqT.of upd_same) (.cons (.tup (SqT.of ((Same.new np2) _ _ ((Same.new np) _ _ upd_same))) (dpAll_ws _)) (.cons (.tup (SqT.of ((Same.new np2) _ _ upd_same)) (.cons (.int _) (.cons (.int _) .nil))) .nil)))
theorem fn_mended (T : Txt K mg) (Df : Defs K) : Fn P w K mg base (L2.CX P w) 4 "mended" (spMended K) [] := by
  obtain ⟨fd, F⟩ := Df.mended
  exact .of F T.g_mended (bnd0 F fun _ _ _ _ _ _ us hl => match us, hl with | [_], _ => rfl) (ok_mended T ⟨fn_need_block T Df, fn_bits_in T Df, fn_columns_of T Df, fn_is_odd T Df⟩ F)
end
end Lk25


set_option autoImplicit false
set_option Elab.async false
set_option linter.all false
set_option maxRecDepth 100000
set_option maxHeartbeats 4000000
namespace Lk25
open PySem PySem.Spec PyProof.Rows L2 Bm
section
variable {P : Program} {w : World} {K : PySem.W.Frag} {mg : Str → Option Value} {base : Heap}
theorem sc_law_is_odd : FnScope ["_law_word", "_law_found"] ["_law_word"] (defScope s_law_is_odd) := ⟨rfl, rfl, rfl, by decide +kernel, rfl, by decide +kernel, by decide +kernel⟩
theorem ok_law_is_odd {f : Addr} {fd : FuncData} (F : FunD K "_law_is_odd" "_law_is_odd" (defArgs s_law_is_odd) (defBody s_law_is_odd) (defScope s_law_is_odd) [] [] f fd) : FnOk P w K mg base CX0 1 f fd ["_law_word"] spLOdd := by
  refine F.ok sc_law_is_odd (fun vs H Q E h => ?_) (fun cdv A outer s H vs Q E hr h => ?_)
  · obtain ⟨n, rfl, _⟩ := h
    rfl
  · obtain ⟨n, rfl, q⟩ := h
    refine ⟨_, PSs.nox (pss_cons (ps_set (i := 1) sc_law_is_odd.nd rfl (Or.inl rfl) pe_int)
  (pss_cons (ps_while PassesOwn.never (pt_cmpR op_gt (pv 0) pe_int (nomark _)) (pss_cons (ps_set (i := 1) sc_law_is_odd.nd rfl (Or.inl rfl) (pe_op op_addNN (pv 1) (pe_op op_modNN (pv 0) pe_int)))
  (pss_one (ps_set (i := 0) sc_law_is_odd.nd rfl (Or.inl rfl) (pe_op op_divNN (pv 0) pe_int)))))
  (pss_one (ps_ret (pe_op op_modNN (pv 1) pe_int))))), ?_⟩
    refine ⟨fun m σ H' => H' = H ∧ ∃ c : Nat, σ = [some (.int ((m : Nat) : Int)), some (.int ((c : Nat) : Int))] ∧ ((c % 2 == 1) ^^ oddB m) = oddB n, ⟨n, rfl, 0, rfl, Bool.false_xor _⟩, ?_⟩
    rintro m σ H' ⟨rfl, c, rfl, e⟩
    refine ⟨_, rfl, _, _, rfl, rfl, _, rfl, ?_⟩
    by_cases hm : m = 0
    · subst hm
      refine iteF ?_
      rw [oddB_zero, Bool.xor_false] at e
      refine ⟨_, rfl, c, 2, rfl, rfl, (show 0 < 2 by decide), ?_⟩
      have e2 : c % 2 = (oddB n).toNat := by
        rw [← e]
        rcases Nat.mod_two_eq_zero_or_one c with h | h <;> rw [h] <;> rfl
      show Q (.int ((c % 2 : Nat) : Int)) H'
      rw [e2]
      exact q
    · refine iteDT (by omega) ?_
      refine ⟨fun σ' H2 => H2 = H' ∧ ∃ c' : Nat, σ' = [some (.int ((m / 2 : Nat) : Int)), some (.int ((c' : Nat) : Int))] ∧ ((c' % 2 == 1) ^^ oddB (m / 2)) = oddB n, fun σ' H2 h2 => ⟨m / 2, by omega, h2⟩, ?_⟩
      refine ⟨_, rfl, _, rfl, _, 2, rfl, rfl, (show 0 < 2 by decide), _, _, rfl, rfl, ?_⟩
      refine ⟨_, rfl, m, 2, rfl, rfl, ⟨by decide, by decide⟩, rfl, c + m % 2, rfl, ?_⟩
      rw [← e, oddB_step hm, ← Bool.xor_assoc]
      congr 1
      rcases Nat.mod_two_eq_zero_or_one c with h | h <;> rcases Nat.mod_two_eq_zero_or_one m with h2 | h2 <;> rw [Nat.add_mod, h, h2] <;> rfl
theorem fn_law_is_odd (T : Txt K mg) (Df : Defs K) : Fn P w K mg base CX0 1 "_law_is_odd" spLOdd [] := by
  obtain ⟨fd, F⟩ := Df.law_is_odd
  exact .of F T.g_law_is_odd (bnd0 F fun _ _ _ _ _ _ us hl => match us, hl with | [_], _ => rfl) (ok_law_is_odd F)
structure CLBlock (P : Program) (w : World) (K : PySem.W.Frag) (mg : Str → Option Value) (base : Heap) : Prop where
  law_is_odd : Fn P w K mg base CX0 1 "_law_is_odd" spLOdd []
theorem sc_law_block : FnScope ["_law_words", "_law_columns", "_law_marks", "_law_step", "_law_k", "_law_word"] ["_law_words"] (defScope s_law_block) := ⟨rfl, rfl, rfl, by decide +kernel, rfl, by decide +kernel, by decide +kernel⟩
theorem ok_law_block (T : Txt K mg) (C : CLBlock P w K mg base) {f : Addr} {fd : FuncData} (F : FunD K "_law_block" "_law_block" (defArgs s_law_block) (defBody s_law_block) (defScope s_law_block) [] [] f fd) : FnOk P w K mg base CX0 2 f fd ["_law_words"] (spLBlock K) := by
  refine F.ok sc_law_block (fun vs H Q E h => ?_) (fun cdv A outer s H vs Q E hr h => ?_)
  · obtain ⟨a, ws, rfl, _⟩ := h
    rfl
  · obtain ⟨a, ws, rfl, hS, hl, hw, q⟩ := h
    refine ⟨_, PSs.nox (pss_cons (ps_asg (pe_tup (pa_cons pe_int (pa_cons pe_int (pa_cons pe_int pa_nil)))) (pg_tup rfl (pgs_cons (pg_name (i := 1) sc_law_block.nd rfl (Or.inl rfl)) (pgs_cons (pg_name (i := 2) sc_law_block.nd rfl (Or.inl rfl)) (pgs_cons (pg_name (i := 3) sc_law_block.nd rfl (Or.inr rfl)) pgs_nil)))))
  (pss_cons (ps_for PassesOwn.never rfl (pi_range1 rfl T.b_range (pa_cons pe_int pa_nil)) (pg_name (i := 4) sc_law_block.nd rfl (Or.inl rfl)) (pss_cons (ps_set (i := 1) sc_law_block.nd rfl (Or.inl rfl) (pe_op op_addNN (pv 1) (pe_op op_mulNN (pv 3) (pe_op op_modNN (pe_callB (cr_sum rfl) rfl T.b_sum (by decide +kernel) (pa_cons (pe_lc (own := [("_law_word", 5)]) rfl sc_law_block.nd  (pi_list (pv 0)) (blkOk_by (own := [("_law_word", 5)]) (N := ["_law_words", "_law_columns", "_law_marks", "_law_step", "_law_k", "_law_word"]) (sc := defScope s_law_block) (by decide +kernel)) (fun _ _ _ _ _ => (pg_name (i := 5) sc_law_block.nd rfl (Or.inl rfl))) (fun _ _ _ _ _ => pts_nil) (fun _ _ _ _ _ => (pe_op op_modNN (pe_op op_divNN (pv 5) (pv 3)) pe_int))) pa_nil)) pe_int))))
  (pss_one (ps_set (i := 3) sc_law_block.nd rfl (Or.inr rfl) (pe_op op_mulNN (pv 3) pe_int)))))
  (pss_cons (ps_set (i := 3) sc_law_block.nd rfl (Or.inr rfl) pe_int)
  (pss_cons (ps_for PassesOwn.never rfl (pi_range1 rfl T.b_range (pa_cons pe_int pa_nil)) (pg_name (i := 4) sc_law_block.nd rfl (Or.inl rfl)) (pss_cons (ps_set (i := 2) sc_law_block.nd rfl (Or.inl rfl) (pe_op op_addNN (pv 2) (pe_op op_mulNN (pv 3) (pe_ifExp (pt_cmpR op_lt (pv 4) (pe_callB call_len_seq rfl T.b_len (by decide +kernel) (pa_cons (pv 0) pa_nil)) (nomark _)) (pe_f C.law_is_odd hr (by decide) pass0 (pa_cons (pe_ix ix_list (pv 0) (pv 4) (fun _ _ => rfl)) pa_nil)) pe_int))))
  (pss_one (ps_set (i := 3) sc_law_block.nd rfl (Or.inr rfl) (pe_op op_mulNN (pv 3) pe_int)))))
  (pss_one (ps_ret (pe_op op_catA (pe_callTy call_tuple_of rfl T.b_tuple (by decide +kernel) (pa_cons (pv 0) pa_nil)) (pe_tup (pa_cons (pv 1) (pa_cons (pe_op op_addNN (pv 2) (pe_op op_mulNN (pv 3) (pe_f C.law_is_odd hr (by decide) pass0 (pa_cons (pv 1) pa_nil)))) pa_nil)))))))))), ?_⟩
    refine ⟨(show 3 ≤ sizeLine by decide), fun t nt => ⟨t, _, rfl, SqT.of upd_same, rfl, _, _, rfl, _, _, rfl, _, _, rfl, rfl, ?_⟩⟩
    have s0 : Same H (upd H t (.tup [.int 0, .int 0, .int 1])) := Same.new nt
    generalize upd H t (.tup [.int 0, .int 0, .int 1]) = H0 at s0
    have two : ∀ {i : Nat}, i < 16 → 2 ^ i ≤ 32768 := fun {i} h => Nat.le_trans (Nat.pow_le_pow_right (by decide) (show i ≤ 15 by omega)) (by decide)
    have twp : ∀ i : Nat, 0 < 2 ^ i := fun i => Nat.two_pow_pos i
    -- for k in range(16)
    refine ⟨16, rfl, by decide, by decide, for_range (lo := 0) (n := 16) (fun i σ H' => Same H H' ∧ ∃ v4 v5, σ = [some (.ref a), some (.int ((bsum (fun k => decide (bitcount k ws % 2 = 1)) i : Nat) : Int)), some (.int 0), some (.int ((2 ^ i : Nat) : Int)), v4, v5]) ⟨s0, none, none, rfl⟩ ?_ ?_⟩
    · rintro i σ H' hi ⟨s1, v4, v5, rfl⟩
      refine ⟨_, rfl, _, rfl, _, rfl, a, rfl, ⟨_, s1.seq hS⟩, fun D nD => lc_list (K := K) (a := a) (xs := wsV ws) (fun j H2 => Same H' H2 ∧ H2 D = some (.lst (wsV ((ws.take j).map fun w => w / 2 ^ i % 2)))) ⟨Same.new nD, upd_same⟩ (fun j H2 _ p => (s1.trans p.1).seq hS) ?_ ?_⟩
      · rintro j x H2 hx ⟨s2, hD⟩
        obtain ⟨n, hn, rfl⟩ := wsV_get hx
        have hj : j < ws.length := (List.getElem?_eq_some_iff.mp hn).1
        have h2 := two hi
        refine ⟨rfl, _, rfl, _, rfl, n, 2 ^ i, rfl, rfl, ⟨twp i, by omega⟩, _, 2, rfl, rfl, (show 0 < 2 by decide), _, hD, ?_, s2.mut nD, ?_⟩
        · unfold wsV
          rw [List.length_map, List.length_map, List.length_take]
          exact Nat.lt_of_le_of_lt (Nat.min_le_left ..) (Nat.lt_of_lt_of_le (show j < 14 by omega) (by decide))
        · rw [upd_same, List.take_add_one, hn, List.map_append]
          unfold wsV
          rw [List.map_append]
          rfl
      · rintro H2 ⟨s2, hD⟩
        rw [show (wsV ws).length = ws.length from List.length_map .., List.take_length, wsV_int] at hD
        have h2 := two hi
        refine ⟨D, _, rfl, SqL.of hD, bitcount i ws, 2, (by rw [sum_wsV]; rfl), rfl, (show 0 < 2 by decide), 2 ^ i, _, rfl, rfl, (by omega), _, _, rfl, rfl, ?_⟩
        refine ⟨_, rfl, 2 ^ i, 2, rfl, rfl, (by omega), s1.trans s2, some (.int (0 + (i : Int))), v5, ?_⟩
        have e1 : bsum (fun k => decide (bitcount k ws % 2 = 1)) (i + 1) = bsum (fun k => decide (bitcount k ws % 2 = 1)) i + 2 ^ i * (bitcount i ws % 2) := by
          show _ + 2 ^ i * (decide (bitcount i ws % 2 = 1)).toNat = _
          rcases Nat.mod_two_eq_zero_or_one (bitcount i ws) with h | h <;> rw [h] <;> rfl
        rw [e1, Nat.pow_succ]
        rfl
    rintro σ H1 ⟨s1, v4, v5, rfl⟩
    rw [law_cols hw]
    -- for k in range(14)
    refine ⟨14, rfl, by decide, by decide, for_range (lo := 0) (n := 14) (fun i σ H' => Same H H' ∧ ∃ v4 v5, σ = [some (.ref a), some (.int ((cols ws : Nat) : Int)), some (.int ((bsum (fun k => ((ws[k]?).map oddB).getD false) i : Nat) : Int)), some (.int ((2 ^ i : Nat) : Int)), v4, v5]) ⟨s1, _, _, rfl⟩ ?_ ?_⟩
    · rintro i σ H' hi ⟨s2, v4, v5, rfl⟩
      have h2 := two (show i < 16 by omega)
      refine ⟨_, rfl, _, rfl, _, rfl, _, rfl, a, _, rfl, .inl (s2.seq hS), _, _, rfl, rfl, _, rfl, ?_⟩
      have hwl : (wsV ws).length = ws.length := List.length_map ..
      rw [hwl]
      refine iteD (fun hk => ?_) (fun hk => ?_)
      · have hk : i < ws.length := by omega
        have e1 : ws[i]? = some ws[i] := List.getElem?_eq_getElem hk
        have e2 : (wsV ws)[i]? = some (.int ((ws[i] : Nat) : Int)) := by
          unfold wsV
          rw [List.getElem?_map, e1]
          rfl
        refine ⟨_, rfl, _, rfl, a, _, _, _, rfl, rfl, s2.seq hS, at0 e2, ws[i], rfl, 2 ^ i, _, rfl, rfl, (by omega), _, _, rfl, rfl, _, rfl, 2 ^ i, 2, rfl, rfl, (by omega), s2, some (.int (0 + (i : Int))), v5, ?_⟩
        have e3 : bsum (fun k => ((ws[k]?).map oddB).getD false) (i + 1) = bsum (fun k => ((ws[k]?).map oddB).getD false) i + 2 ^ i * (oddB ws[i]).toNat := by
          show _ + 2 ^ i * (((ws[i]?).map oddB).getD false).toNat = _
          rw [e1]
          rfl
        rw [e3, Nat.pow_succ]
        rfl
      · have hk : ¬ i < ws.length := by omega
        have e1 : ws[i]? = none := List.getElem?_eq_none_iff.mpr (by omega)
        refine ⟨2 ^ i, 0, rfl, rfl, (by omega), _, _, rfl, rfl, _, rfl, 2 ^ i, 2, rfl, rfl, (by omega), s2, some (.int (0 + (i : Int))), v5, ?_⟩
        have e3 : bsum (fun k => ((ws[k]?).map oddB).getD false) (i + 1) = bsum (fun k => ((ws[k]?).map oddB).getD false) i + 2 ^ i * 0 := by
          show _ + 2 ^ i * (((ws[i]?).map oddB).getD false).toNat = _
          rw [e1]
          rfl
        rw [e3, Nat.pow_succ]
        rfl
    rintro σ H2 ⟨s2, v4, v5, rfl⟩
    refine ⟨_, rfl, a, _, rfl, .inl ⟨s2.seq hS, fun t1 nt1 => ?_⟩⟩
    refine ⟨_, rfl, _, rfl, _, rfl, _, rfl, cols ws, rfl, 2 ^ 14, _, rfl, rfl, (show 2 ^ 14 ≤ 4294967296 by decide), _, _, rfl, rfl, (show 2 ≤ sizeLine by decide), fun p np => ?_⟩
    have s3 := (s2.trans (Same.new (o := .tup (wsV ws)) nt1)).trans (Same.new (o := .tup [.int ((cols ws : Nat) : Int), .int ((bsum (fun k => ((ws[k]?).map oddB).getD false) 14 + 2 ^ 14 * (oddB (cols ws)).toNat : Nat) : Int)]) np)
    refine ⟨t1, p, wsV ws, _, rfl, rfl, SqT.of ((Same.new np) _ _ upd_same), SqT.of upd_same, ?_, fun e => ?_, fun _ e => (by cases e), fun _ _ r nr => ?_⟩
    · rw [show (wsV ws).length = ws.length from List.length_map ..]
      show ws.length + 2 ≤ sizeLine
      exact Nat.le_trans (Nat.add_le_add_right hl 2) (by decide)
    · cases ws with
      | nil =>
        refine q p _ s3 ?_
        rw [upd_same, ← law_marks (ws := []) (by decide)]
        rfl
      | cons x r => cases e
    · refine q r _ (s3.trans (Same.new nr)) ?_
      rw [upd_same, ← law_marks hl]
      unfold wsV
      rw [List.map_append]
      rfl
theorem fn_law_block (T : Txt K mg) (Df : Defs K) : Fn P w K mg base CX0 2 "_law_block" (spLBlock K) [] := by
  obtain ⟨fd, F⟩ := Df.law_block
  exact .of F T.g_law_block (bnd0 F fun _ _ _ _ _ _ us hl => match us, hl with | [_], _ => rfl) (ok_law_block T ⟨fn_law_is_odd T Df⟩ F)
end
end Lk25


set_option autoImplicit false
set_option Elab.async false
set_option linter.all false
set_option maxRecDepth 100000
set_option maxHeartbeats 4000000
namespace Lk25
open PySem PySem.Spec PyProof.Rows L2 Bm
section
def lawQ : Str := (envOfC "law" (defScope s_law) 0 0 .none).qual
abbrev lawT (K : PySem.W.Frag) : List (Addr × Str) := [((He.cT K ("law", none)).2, lawQ ++ "<lambda>")]
theorem pe_kind {X : Cx} {k j : Nat} {params : Arguments} {body : Expr} {scope : Scope} {t : XK → TE} {p lpos pos : Pos} (T : Txt X.K X.mg) (Df : Defs X.K) (TB : LamX.TabB X.base X.mg (He.cT X.K ("law", none)).1 (He.cT X.K ("law", none)).2)
    (hcode : X.env.code = .ref (He.cT X.K ("law", none)).1) (hq : X.env.qual = lawQ) (hr : Room j X.A) (hj : k + 2 ≤ j) (L : LamX.LamS X.env.scope scope) (hdef : defaultsOf params X.env = ([], []))
    (hbind : ∀ (q : Str) (cl : List (Str × Addr)) (pm cv ctv : Value), bindArgs (PySem.W.kla_fn "<lambda>" q params body scope cl pm cv ctv) ⟨[], []⟩ = pure [])
    (hbody : ∀ (A : Around) (outer : List Env) (s : Shared) (H : Hp) (E : XK) (f c' : Addr), Room k (A.deeper (LamX.lamEnv X scope s.heap.objs.size f c')) → PE (LamX.lamCx X A outer s H E scope f c') body (t E)) (hg : Gl X "_law_kind" := by rfl) :
    PE X (.Call (.Name "_law_kind" p) [.Lambda params body scope lpos] [] pos) (LamX.tLam (lawT X.K) (TKind X.K) t) := by
  obtain ⟨fd, F⟩ := Df.law_kind
  have b := F.bindsN (ps := ["_law_work"]) fun _ _ _ _ _ _ us hl => match us, hl with | [_], _ => rfl
  have kp := F.kp
  obtain ⟨oc, od, dV, kV, doc, pm, an, cdv, ct, osl, rfl, lk, hcd, _, _⟩ := F.ex
  have e : lawT X.K = [((He.cT X.K ("law", none)).2, X.env.qual ++ "<lambda>")] := by rw [hq]
  rw [e]
  exact LamX.pe_lamcall (TT := TKind X.K) hg T.g_law_kind kp lk hcd b sc_law_kind rfl (Or.inl rfl) (kind_gives T) TB hcode (List.mem_singleton.mpr rfl) (fun p hp _ => by rw [List.mem_singleton.mp hp]) (hr.mono hj) L hdef hbind hbody
end
end Lk25


set_option autoImplicit false
set_option Elab.async false
set_option linter.all false
set_option maxRecDepth 100000
set_option maxHeartbeats 4000000
namespace Lk25
open PySem PySem.Spec PyProof.Rows L2 Bm
section
variable {P : Program} {w : World} {K : PySem.W.Frag} {mg : Str → Option Value} {base : Heap}
theorem sc_law_flipped : FnScope ["_law_block_here", "_law_word", "_law_bit", "_law_step", "_law_k", "_law_other"] ["_law_block_here", "_law_word", "_law_bit"] (defScope s_law_flipped) := ⟨rfl, rfl, rfl, by decide +kernel, rfl, by decide +kernel, by decide +kernel⟩
theorem ok_law_flipped (T : Txt K mg) {f : Addr} {fd : FuncData} (F : FunD K "_law_flipped" "_law_flipped" (defArgs s_law_flipped) (defBody s_law_flipped) (defScope s_law_flipped) [] [] f fd) : FnOk P w K mg base CX0 1 f fd ["_law_block_here", "_law_word", "_law_bit"] (spFlip K) := by
  refine F.ok sc_law_flipped (fun vs H Q E h => ?_) (fun cdv A outer s H vs Q E hr h => ?_)
  · obtain ⟨a, bs, i, k, rfl, _⟩ := h
    rfl
  · obtain ⟨a, bs, i, k, rfl, hS, hi, hl, hk, q⟩ := h
    refine ⟨_, PSs.nox (pss_cons (ps_set (i := 3) sc_law_flipped.nd rfl (Or.inl rfl) pe_int)
  (pss_cons (ps_for PassesOwn.never rfl (pi_range1 rfl T.b_range (pa_cons (pv 2) pa_nil)) (pg_name (i := 4) sc_law_flipped.nd rfl (Or.inl rfl)) (pss_one (ps_set (i := 3) sc_law_flipped.nd rfl (Or.inl rfl) (pe_op op_mulNN (pv 3) pe_int))))
  (pss_cons (ps_set (i := 5) sc_law_flipped.nd rfl (Or.inl rfl) (pe_op op_add (pe_ix ix_tup (pv 0) (pv 1) (fun _ _ => rfl)) (pe_ix ix_list (pe_lst (pa_cons (pv 3) (pa_cons (pe_op op_sub pe_int (pv 3)) pa_nil))) (pe_op op_modNN (pe_op op_divNN (pe_ix ix_tup (pv 0) (pv 1) (fun _ _ => rfl)) (pv 3)) pe_int) (fun _ _ => rfl))))
  (pss_one (ps_ret (pe_op op_catA (pe_op op_catA (pe_slice sl_tupA (pv 0) po_none (po_some (pv 1))) (pe_tup (pa_cons (pv 5) pa_nil))) (pe_slice sl_tupA (pv 0) (po_some (pe_op op_add (pv 1) pe_int)) po_none))))))), ?_⟩
    refine ⟨_, rfl, (k : Int), rfl, by omega, by omega, for_range (lo := 0) (n := k) (fun j σ H' => H' = H ∧ ∃ v, σ = [some (.ref a), some (.int (i : Int)), some (.int (k : Int)), some (.int ((2 ^ j : Nat) : Int)), v, none]) ⟨rfl, _, rfl⟩ ?_ ?_⟩
    · rintro j σ H' hj ⟨rfl, v, rfl⟩
      refine ⟨_, rfl, 2 ^ j, 2, rfl, rfl, ?_, rfl, some (.int (0 + ((j : Nat) : Int))), ?_⟩
      · exact Nat.le_trans (Nat.pow_le_pow_right (by decide) (show j ≤ 16 by omega)) (by decide)
      · rw [Nat.pow_succ]
        rfl
    rintro σ H' ⟨rfl, v, rfl⟩
    obtain ⟨v2, e1, e2⟩ := turn_pick (bs.getD i 0) k
    refine ⟨_, rfl, _, rfl, a, _, _, _, rfl, rfl, hS, atI_nat (wsV_at hi), ?_⟩
    refine ⟨_, rfl, _, rfl, _, _, rfl, rfl, (show 2 ≤ sizeLine by decide), fun l nl => ?_⟩
    have s1 : Same H' (upd H' l (.lst [.int ((2 ^ k : Nat) : Int), .int (0 - ((2 ^ k : Nat) : Int))])) := Same.new nl
    have hp : 2 ^ k < 1073741824 := Nat.lt_of_lt_of_le (Nat.pow_lt_pow_right (by decide) hk) (by decide)
    refine ⟨_, rfl, _, rfl, a, _, _, _, rfl, rfl, s1.seqT hS, atI_nat (wsV_at hi), _, rfl, bs.getD i 0, 2 ^ k, rfl, rfl, ⟨Nat.pow_pos (by decide), hp⟩, bs.getD i 0 / 2 ^ k, 2, rfl, rfl, (show 0 < 2 by decide), l, _, _, _, rfl, rfl, SqL.of upd_same, e1, _, _, rfl, rfl, ?_⟩
    rw [show ((fun i j : Int => V.int (i + j)) ((bs.getD i 0 : Nat) : Int) v2) = V.int ((bs.getD i 0 ^^^ 2 ^ k : Nat) : Int) from congrArg V.int e2]
    refine ⟨_, rfl, _, rfl, _, rfl, slA_ok (s1.seqT hS) fun p1 H2 s2 h2 => ?_⟩
    rw [cut_to_ws] at h2
    refine ⟨_, rfl, (show 1 ≤ sizeLine by decide), fun p2 n2 => ?_⟩
    have s3 : Same H2 (upd H2 p2 (.tup [.int ((bs.getD i 0 ^^^ 2 ^ k : Nat) : Int)])) := Same.new n2
    refine catA_ok (s3.seqT h2) (SqT.of upd_same) ?_ fun p3 H3 s4 h3 => ?_
    · rw [wsV_len, List.length_take]
      exact Nat.le_trans (show min i bs.length + 1 ≤ 200 by omega) (by decide)
    have s5 := ((s1.trans s2).trans s3).trans s4
    refine ⟨_, rfl, _, rfl, _, _, rfl, rfl, _, rfl, ?_⟩
    unfold tNoPart
    refine slA_ok (s5.seqT hS) fun p4 H4 s6 h4 => ?_
    rw [show ((i : Nat) : Int) + 1 = ((i + 1 : Nat) : Int) by omega, cut_from_ws] at h4
    refine catA_ok (s6.seqT h3) h4 ?_ fun p5 H5 s7 h5 => ?_
    · rw [List.length_append, wsV_len, wsV_len, List.length_take, List.length_drop]
      exact Nat.le_trans (show min i bs.length + 1 + (bs.length - (i + 1)) ≤ 300 by omega) (by decide)
    refine q _ _ ((s5.trans s6).trans s7) ?_
    rw [flipB_eq hi, wsV_app, wsV_app]
    exact h5
theorem fn_law_flipped (T : Txt K mg) (Df : Defs K) : Fn P w K mg base CX0 1 "_law_flipped" (spFlip K) [] := by
  obtain ⟨fd, F⟩ := Df.law_flipped
  exact .of F T.g_law_flipped (bnd0 F fun _ _ _ _ _ _ us hl => match us, hl with | [_, _, _], _ => rfl) (ok_law_flipped T F)
end
end Lk25


set_option autoImplicit false
set_option Elab.async false
set_option linter.all false
set_option maxRecDepth 100000
set_option maxHeartbeats 4000000
namespace Lk25
open PySem PySem.Spec PyProof.Rows L2 Bm
section
variable {P : Program} {w : World} {K : PySem.W.Frag} {mg : Str → Option Value} {base : Heap}
structure CLaw (P : Program) (w : World) (K : PySem.W.Frag) (mg : Str → Option Value) (base : Heap) : Prop where
  law_start : Fn P w K mg base CX0 1 "_law_start" (spStart K) []
  law_drawn : Fn P w K mg base CX0 1 "_law_drawn" (spDrawn K) []
  law_same : Fn P w K mg base CX0 3 "_law_same" (spSame K 2) []
  law_flipped : Fn P w K mg base CX0 1 "_law_flipped" (spFlip K) []
  sealed : Fn P w K mg base (L2.CX P w) 4 "sealed" (spSealed K) []
  mended : Fn P w K mg base (L2.CX P w) 4 "mended" (spMended K) []
def spLaw (K : PySem.W.Frag) : Sp := fun vs H Q _ => ∃ (sc : Addr) (ns : List Int), vs = [.ref sc] ∧ SqL K H sc (ns.map V.int) ∧ ns.length ≤ 63 ∧ H (He.cT K ("law", none)).2 = some (.tbl #[]) ∧ ∀ H', Q (.bl true) H'
theorem sc_law : FnScope ["_law_script", "_law_state", "_law_far", "_law_words", "_law_block_here", "_law_word", "_law_bit", "_law_turn", "_law_one", "_law_some", "_law_other", "_law_bad", "_law_k"] ["_law_script"] (defScope s_law) := ⟨rfl, rfl, rfl, by decide +kernel, rfl, by decide +kernel, by decide +kernel⟩
set_option maxHeartbeats 32000000 in
theorem ok_law (T : Txt K mg) (Df : Defs K) (C : CLaw P w K mg base) (TB : LamX.TabB base mg (He.cT K ("law", none)).1 (He.cT K ("law", none)).2) {fd : FuncData} (F : FunD K "law" "law" (defArgs s_law) (defBody s_law) (defScope s_law) [] [] (He.fAd K ("law", none)) fd) : FnOk P w K mg base CX0 7 (He.fAd K ("law", none)) fd ["_law_script"] (spLaw K) := by
  refine okC ("law", none) F sc_law (fun vs H Q E h => ?_) (fun A outer s H vs Q E hr h => ?_)
  · obtain ⟨sc, ns, rfl, _⟩ := h
    rfl
  · obtain ⟨sc, ns, rfl, hS, hl, hT, q⟩ := h
    refine ⟨_, PSs.nox (pss_cons (ps_set (i := 1) sc_law.nd rfl (Or.inr rfl) (pe_f C.law_start hr (by decide) pass0 (pa_cons (pv 0) pa_nil)))
  (pss_cons (ps_set (i := 2) sc_law.nd rfl (Or.inr rfl) (pe_ix ix_list (pe_lst (pa_cons pe_int (pa_cons pe_int (pa_cons pe_int pa_nil)))) (pe_f C.law_drawn hr (by decide) pass0 (pa_cons (pv 1) (pa_cons pe_int pa_nil))) (fun _ _ => rfl)))
  (pss_cons (ps_set (i := 3) sc_law.nd rfl (Or.inl rfl) (pe_callTy call_tuple_of rfl T.b_tuple (by decide +kernel) (pa_cons (pe_lc (own := [("_law_k", 12)]) rfl sc_law.nd  (pi_range1 rfl T.b_range (pa_cons (pe_op op_add pe_int (pe_f C.law_drawn hr (by decide) pass0 (pa_cons (pv 1) (pa_cons pe_int pa_nil)))) pa_nil)) (blkOk_by (own := [("_law_k", 12)]) (N := ["_law_script", "_law_state", "_law_far", "_law_words", "_law_block_here", "_law_word", "_law_bit", "_law_turn", "_law_one", "_law_some", "_law_other", "_law_bad", "_law_k"]) (sc := defScope s_law) (by decide +kernel)) (fun _ _ _ _ _ => (pg_name (i := 12) sc_law.nd rfl (Or.inl rfl))) (fun _ _ _ _ _ => pts_nil) (fun _ _ _ _ _ => (pe_f C.law_drawn hr (by decide) pass0 (pa_cons (pv 1) (pa_cons (pv 2) pa_nil))))) pa_nil)))
  (pss_cons (ps_set (i := 4) sc_law.nd rfl (Or.inl rfl) (pe_ix ix_list (pe_f C.sealed hr (by decide) passL (pa_cons (pv 3) pa_nil)) pe_int (fun _ _ => rfl)))
  (pss_cons (ps_for PassesOwn.never rfl (pi_range1 rfl T.b_range (pa_cons (pe_callB call_len_seq rfl T.b_len (by decide +kernel) (pa_cons (pv 4) pa_nil)) pa_nil)) (pg_name (i := 5) sc_law.nd rfl (Or.inl rfl)) (pss_one (ps_for PassesOwn.never rfl (pi_range1 rfl T.b_range (pa_cons pe_int pa_nil)) (pg_name (i := 6) sc_law.nd rfl (Or.inl rfl)) (pss_one (ps_if (pt_not (pt_val (pe_f C.law_same hr (by decide) pass0 (pa_cons (pe_f C.mended hr (by decide) passL (pa_cons (pe_f C.law_flipped hr (by decide) pass0 (pa_cons (pv 4) (pa_cons (pv 5) (pa_cons (pv 6) pa_nil)))) pa_nil)) (pa_cons (pe_tup (pa_cons (pv 3) (pa_cons (pe_tup (pa_cons (pv 5) (pa_cons (pv 6) pa_nil))) pa_nil))) pa_nil))))) (pss_one (ps_ret pe_bl)) (pss_nil))))))
  (pss_cons (ps_for PassesOwn.never rfl (pi_range1 rfl T.b_range (pa_cons pe_int pa_nil)) (pg_name (i := 7) sc_law.nd rfl (Or.inl rfl)) (pss_cons (ps_set (i := 8) sc_law.nd rfl (Or.inl rfl) (pe_tup (pa_cons (pe_f C.law_drawn hr (by decide) pass0 (pa_cons (pv 1) (pa_cons (pe_callB call_len_seq rfl T.b_len (by decide +kernel) (pa_cons (pv 4) pa_nil)) pa_nil))) (pa_cons (pe_f C.law_drawn hr (by decide) pass0 (pa_cons (pv 1) (pa_cons pe_int pa_nil))) pa_nil))))
  (pss_cons (ps_set (i := 9) sc_law.nd rfl (Or.inl rfl) (pe_lst (pa_cons (pe_tup (pa_cons (pe_ix ix_tup (pv 8) pe_int (fun _ _ => rfl)) (pa_cons (pe_f C.law_drawn hr (by decide) pass0 (pa_cons (pv 1) (pa_cons pe_int pa_nil))) pa_nil))) (pa_cons (pe_tup (pa_cons (pe_f C.law_drawn hr (by decide) pass0 (pa_cons (pv 1) (pa_cons (pe_callB call_len_seq rfl T.b_len (by decide +kernel) (pa_cons (pv 4) pa_nil)) pa_nil))) (pa_cons (pe_ix ix_tup (pv 8) pe_int (fun _ _ => rfl)) pa_nil))) pa_nil))))
  (pss_cons (ps_set (i := 9) sc_law.nd rfl (Or.inl rfl) (pe_op op_cat (pv 9) (pe_lst (pa_cons (pe_tup (pa_cons (pe_f C.law_drawn hr (by decide) pass0 (pa_cons (pv 1) (pa_cons (pe_callB call_len_seq rfl T.b_len (by decide +kernel) (pa_cons (pv 4) pa_nil)) pa_nil))) (pa_cons (pe_f C.law_drawn hr (by decide) pass0 (pa_cons (pv 1) (pa_cons pe_int pa_nil))) pa_nil))) (pa_cons (pe_tup (pa_cons (pe_op op_sub (pe_callB call_len_seq rfl T.b_len (by decide +kernel) (pa_cons (pv 4) pa_nil)) pe_int) (pa_cons (pe_f C.law_drawn hr (by decide) pass0 (pa_cons (pv 1) (pa_cons pe_int pa_nil))) pa_nil))) pa_nil)))))
  (pss_cons (ps_set (i := 10) sc_law.nd rfl (Or.inl rfl) (pe_ix ix_list (pv 9) (pe_f C.law_drawn hr (by decide) pass0 (pa_cons (pv 1) (pa_cons pe_int pa_nil))) (fun _ _ => rfl)))
  (pss_cons (ps_set (i := 11) sc_law.nd rfl (Or.inr rfl) (pe_f C.law_flipped hr (by decide) pass0 (pa_cons (pe_f C.law_flipped hr (by decide) pass0 (pa_cons (pv 4) (pa_cons (pe_ix ix_tup (pv 8) pe_int (fun _ _ => rfl)) (pa_cons (pe_ix ix_tup (pv 8) pe_int (fun _ _ => rfl)) pa_nil)))) (pa_cons (pe_ix ix_tup (pv 10) pe_int (fun _ _ => rfl)) (pa_cons (pe_ix ix_tup (pv 10) pe_int (fun _ _ => rfl)) pa_nil)))))
  (pss_one (ps_if (pt_ifExp (pt_cmpR (op_neD hr.units) (pv 8) (pv 10) (nomark _)) (pt_cmpR op_ne (pe_kind (k := 4) T Df TB rfl rfl hr (by decide) (LamX.lamS_by (sc := defScope s_law) (by decide +kernel)) rfl (fun _ _ _ _ _ => rfl) (fun _ _ _ _ _ _ _ hrL => (pe_f C.mended hrL (by decide) (passes_call (takes_of rfl rfl rfl rfl) fun _ _ _ _ h => h) (pa_cons (pv 11) pa_nil)))) pe_str (nomark _)) (pt_cmpR (op_neD hr.units) (pe_f C.mended hr (by decide) passL (pa_cons (pv 11) pa_nil)) (pe_tup (pa_cons (pv 3) (pa_cons pe_non pa_nil))) (nomark _))) (pss_one (ps_ret pe_bl)) (pss_nil)))))))))
  (pss_one (ps_ret pe_bl)))))))), ?_⟩
    refine ⟨_, rfl, sc, ns, rfl, hS, by omega, fun st H1 nst s1 hst => ?_⟩
    have g1 : Gd K st sc ns (lawT K) H1 := ⟨hst, fun p hp => by rw [List.mem_singleton.mp hp]; exact LamX.TabS.nil (s1 _ _ hT)⟩
    clear hst s1 nst hT hS
    -- far
    refine ⟨(show 3 ≤ sizeLine by decide), fun l1 n1 => ?_⟩
    have g2 := g1.same (Same.new (o := .lst [.int 65536, .int 2, .int 65536]) n1)
    refine ⟨_, rfl, st, sc, ns, 3, rfl, g2.st, by decide, by decide, fun r1 H2 hr0 hr1 k2 => ?_⟩
    obtain ⟨far, efar, hf⟩ := pick3n (a := 65536) (b := 2) (c := 65536) hr0 hr1
    refine ⟨l1, _, _, _, rfl, rfl, SqL.of (k2.kp.lst upd_same (g1.ne n1)), efar, ?_⟩
    have g3 := g2.kept k2
    have hf0 : 1 ≤ far := by omega
    have hf1 : far ≤ 65536 := by omega
    clear g2 k2 efar n1 hr0 hr1 g1 hf
    -- words
    refine ⟨_, rfl, st, sc, ns, 14, rfl, g3.st, by decide, by decide, fun r2 H3 hr0 hr1 k3 => ?_⟩
    have g4 := g3.kept k3
    obtain ⟨m, em, hm0, hm1⟩ : ∃ m : Nat, 1 + r2 = ((m : Nat) : Int) ∧ 1 ≤ m ∧ m ≤ 14 := ⟨(1 + r2).toNat, by omega, by omega, by omega⟩
    refine ⟨_, _, rfl, rfl, ((m : Nat) : Int), (by rw [← em]), by omega, by omega, fun im nim => ?_⟩
    have him : im ≠ st := g4.ne nim
    refine lc_range (lo := 0) (n := m) (fun i H' => Gd K st sc ns (lawT K) H' ∧ ∃ zs : List Nat, H' im = some (.lst (wsV zs)) ∧ zs.length = i ∧ ∀ z ∈ zs, z < 65536) ⟨g4.same (Same.new nim), [], upd_same, rfl, fun _ h => by cases h⟩ ?_ ?_
    · rintro i H8 hi ⟨g10, zs, hz, hzl, hzs⟩
      refine ⟨rfl, _, rfl, _, rfl, st, sc, ns, _, rfl, g10.st, by omega, by omega, fun r H9 hr0 hr1 k9 => ?_⟩
      have hz9 := k9.kp.lst hz him
      refine ⟨_, hz9, ?_, (g10.kept k9).mut g4 nim hz9, zs ++ [r.toNat], ?_, by rw [List.length_append, hzl]; rfl, fun z hzz => ?_⟩
      · rw [wsV_len, hzl]
        exact Nat.lt_of_lt_of_le (show i < 200 by omega) (by decide)
      · rw [upd_same, wsV_app]
        show some (HO.lst (_ ++ [V.int r])) = some (HO.lst (_ ++ [V.int ((r.toNat : Nat) : Int)]))
        rw [show ((r.toNat : Nat) : Int) = r by omega]
      · rcases List.mem_append.mp hzz with h | h
        · exact hzs z h
        · rw [List.mem_singleton.mp h]
          omega
    rintro H4 ⟨g5, ws, hws, hwl, hw⟩
    clear g4 nim him k3 g3 hr0 hr1
    refine ⟨im, _, rfl, .inl ⟨SqL.of hws, fun wd nwd => ?_⟩⟩
    have g6 := g5.same (Same.new (o := .tup (wsV ws)) nwd)
    have hwd : SqT K (upd H4 wd (.tup (wsV ws))) wd (wsV ws) := SqT.of upd_same
    show tSeq _ _ _ _ (upd H4 wd (.tup (wsV ws)))
    generalize upd H4 wd (.tup (wsV ws)) = H5 at g6 hwd
    clear g5 hws nwd
    have hl1 : 1 ≤ ws.length := by omega
    have hl14 : ws.length ≤ 14 := by omega
    -- block
    refine ⟨_, rfl, wd, _, rfl, .inr hwd, kd_ws, (fun i hi => by rw [bad_ws hw (by omega)] at hi; cases hi), fun ws' e' _ _ fo H6 ys nfo s6 hfo hdp => ?_⟩
    obtain rfl := wsV_inj e'
    obtain ⟨bk, rfl, hbk⟩ := dp_seal hl1 hl14 hdp
    refine ⟨fo, _, _, _, rfl, rfl, SqL.of hfo, rfl, ?_⟩
    have g7 := g6.same s6
    have hwd6 := s6.seqT hwd
    clear g6 hwd hdp hfo nfo s6 e'
    have hbl : (wsV (sealB ws)).length = ws.length + 2 := by rw [wsV_len, sealB_len]
    have hbw := sealB_lt hl14 hw
    -- every bit
    refine ⟨_, rfl, bk, _, rfl, .inr hbk, ((ws.length + 2 : Nat) : Int), (by rw [hbl]), by omega, by omega, for_range (lo := 0) (n := ws.length + 2) (fun i σ H' => Same H6 H' ∧ ∃ w5 w6, σ = [some (.ref sc), some (.ref st), some (.int ((far : Nat) : Int)), some (.ref wd), some (.ref bk), w5, w6, none, none, none, none, none, none]) ⟨Same.refl _, _, _, rfl⟩ ?_ ?_⟩
    · rintro i σ Hx hi ⟨sx, w5, w6, rfl⟩
      refine ⟨16, rfl, by decide, by decide, for_range (lo := 0) (n := 16) (fun j σ H' => Same H6 H' ∧ ∃ w6, σ = [some (.ref sc), some (.ref st), some (.int ((far : Nat) : Int)), some (.ref wd), some (.ref bk), some (.int (0 + (i : Int))), w6, none, none, none, none, none, none]) ⟨sx, _, rfl⟩ ?_ ?_⟩
      · rintro j σ Hy hj ⟨sy, w6, rfl⟩
        rw [show (0 + ((j : Nat) : Int)) = ((j : Nat) : Int) from Int.zero_add _, show (0 + ((i : Nat) : Int)) = ((i : Nat) : Int) from Int.zero_add _]
        refine ⟨_, rfl, _, rfl, _, rfl, bk, sealB ws, i, j, rfl, sy.seqT hbk, (by rw [sealB_len]; exact hi), (by rw [sealB_len]; omega), hj, fun p1 H8 s8 h8 => ?_⟩
        have hfl : (flipB (sealB ws) i j).length = ws.length + 2 := by rw [flipB_len, sealB_len]
        have hfw := flipB_lt hbw hj (i := i) (by rw [sealB_len]; exact hi)
        have hm := mend_flip (k := j) hl1 hl14 hi
        refine ⟨p1, _, rfl, .inr h8, kd_ws, (fun i hi => by rw [bad_ws hfw (by rw [hfl]; omega)] at hi; cases hi), (fun _ hlt => by rw [wsV_len, hfl] at hlt; omega), (fun b e _ _ _ hn => by rw [← wsV_inj e, hm] at hn; cases hn), fun b r' e _ _ _ hn v Hb sb hv => ?_⟩
        rw [← wsV_inj e, hm] at hn
        cases hn
        have s9 := (sy.trans s8).trans sb
        refine ⟨_, rfl, _, rfl, _, rfl, (show 2 ≤ sizeLine by decide), fun p2 n2 => ⟨(show 2 ≤ sizeLine by decide), fun p3 n3 => ?_⟩⟩
        have s10 := (Same.new (o := .tup [.int (i : Int), .int (j : Int)]) n2).trans (Same.new (o := .tup [.ref wd, .ref p2]) n3)
        refine ⟨v, .ref p3, mendD (ws, some (i, j)), rfl, hv.same s10, .tup (SqT.of upd_same) (.cons (.tup ((s9.trans s10).seqT hwd6) (dpAll_ws _)) (.cons (.tup (SqT.of ((Same.new n3) _ _ upd_same)) (.cons (.int _) (.cons (.int _) .nil))) .nil)), mendD_dep _ _ (by omega), fun Hd sd => ⟨_, rfl, iteF ?_⟩⟩
        exact ⟨(s9.trans s10).trans sd, _, rfl⟩
      · rintro σ Hy ⟨sy, w6, rfl⟩
        exact ⟨sy, _, _, rfl⟩
    rintro σ H7 ⟨s7, w5, w6, rfl⟩
    have g8 := g7.same s7
    have hwd7 := s7.seqT hwd6
    have hbk7 := s7.seqT hbk
    clear g7 s7 hwd6 hbk
    -- sixty pairs
    refine ⟨60, rfl, by decide, by decide, for_range (lo := 0) (n := 60) (fun i σ H' => Gd K st sc ns (lawT K) H' ∧ SqT K H' wd (wsV ws) ∧ SqT K H' bk (wsV (sealB ws)) ∧ ∃ v7 v8 v9 v10 v11, σ = [some (.ref sc), some (.ref st), some (.int ((far : Nat) : Int)), some (.ref wd), some (.ref bk), w5, w6, v7, v8, v9, v10, v11, none]) ⟨g8, hwd7, hbk7, _, _, _, _, _, rfl⟩ ?_ ?_⟩
    rotate_left
    · rintro σ H' ⟨_, _, _, v7, v8, v9, v10, v11, rfl⟩
      exact q _
    clear g8 hwd7 hbk7
    rintro turn σ H8 hturn ⟨g9, hwd, hbk, v7, v8, v9, v10, v11, rfl⟩
    have kk : ∀ {H H' : Hp} {a : Addr} {xs : List V}, Kept K st sc ns H H' → Gd K st sc ns (lawT K) H → SqT K H a xs → SqT K H' a xs := fun k g h => k.kp.sqT g.st h
    -- one
    refine ⟨_, rfl, _, rfl, bk, _, rfl, .inr hbk, st, sc, ns, ((ws.length + 2 : Nat) : Int), (by rw [hbl]; rfl), g9.st, by omega, by omega, fun i0 H9 hi0 hi1 k9 => ?_⟩
    have g10 := g9.kept k9
    refine ⟨_, rfl, st, sc, ns, 16, rfl, g10.st, by decide, by decide, fun k0 H10 hk0 hk1 k10 => ⟨(show 2 ≤ sizeLine by decide), fun o1 no1 => ?_⟩⟩
    have g11 := (g10.kept k10).same (Same.new (o := .tup [.int i0, .int k0]) no1)
    have hbk1 := (Same.new (o := .tup [.int i0, .int k0]) no1).seqT (kk k10 g10 (kk k9 g9 hbk))
    have hwd1 := (Same.new (o := .tup [.int i0, .int k0]) no1).seqT (kk k10 g10 (kk k9 g9 hwd))
    have ho1 : SqT K (upd H10 o1 (.tup [.int i0, .int k0])) o1 [.int i0, .int k0] := SqT.of upd_same
    generalize upd H10 o1 (.tup [.int i0, .int k0]) = H11 at g11 hbk1 hwd1 ho1 ⊢
    clear g10 k10 k9 g9 hbk hwd no1
    -- some, of two
    refine ⟨_, rfl, o1, _, _, _, rfl, rfl, ho1, rfl, _, rfl, st, sc, ns, 16, rfl, g11.st, by decide, by decide, fun a1 H12 ha0 ha1 k12 => ⟨(show 2 ≤ sizeLine by decide), fun t1 nt1 => ?_⟩⟩
    have s13 : Same H12 (upd H12 t1 (.tup [.int i0, .int a1])) := Same.new nt1
    have g13 := (g11.kept k12).same s13
    have hbk2 := s13.seqT (kk k12 g11 hbk1)
    have hwd2 := s13.seqT (kk k12 g11 hwd1)
    have ho2 := s13.seqT (kk k12 g11 ho1)
    have ht1 : SqT K (upd H12 t1 (.tup [.int i0, .int a1])) t1 [.int i0, .int a1] := SqT.of upd_same
    generalize upd H12 t1 (.tup [.int i0, .int a1]) = H13 at g13 hbk2 hwd2 ho2 ht1 s13 ⊢
    clear g11 k12 hbk1 hwd1 ho1 nt1 s13
    refine ⟨_, rfl, _, rfl, bk, _, rfl, .inr hbk2, st, sc, ns, ((ws.length + 2 : Nat) : Int), (by rw [hbl]; rfl), g13.st, by omega, by omega, fun b1 H14 hb0 hb1 k14 => ?_⟩
    have g14 := g13.kept k14
    refine ⟨_, rfl, o1, _, _, _, rfl, rfl, kk k14 g13 ho2, rfl, (show 2 ≤ sizeLine by decide), fun t2 nt2 => ⟨(show 2 ≤ sizeLine by decide), fun l1 nl1 => ?_⟩⟩
    have s15 : Same H14 (upd (upd H14 t2 (.tup [.int b1, .int k0])) l1 (.lst [.ref t1, .ref t2])) := (Same.new nt2).trans (Same.new nl1)
    have g15 := g14.same s15
    have hbk3 := s15.seqT (kk k14 g13 hbk2)
    have hwd3 := s15.seqT (kk k14 g13 hwd2)
    have ho3 := s15.seqT (kk k14 g13 ho2)
    have ht1b := s15.seqT (kk k14 g13 ht1)
    have ht2 : SqT K (upd (upd H14 t2 (.tup [.int b1, .int k0])) l1 (.lst [.ref t1, .ref t2])) t2 [.int b1, .int k0] := SqT.of ((Same.new nl1) _ _ upd_same)
    have hl1' : (upd (upd H14 t2 (.tup [.int b1, .int k0])) l1 (.lst [.ref t1, .ref t2])) l1 = some (.lst [.ref t1, .ref t2]) := upd_same
    have nl1s : l1 ≠ st := (g14.same (Same.new nt2)).ne nl1
    generalize upd (upd H14 t2 (.tup [.int b1, .int k0])) l1 (.lst [.ref t1, .ref t2]) = H15 at s15 g15 hbk3 hwd3 ho3 ht1b ht2 hl1' ⊢
    clear g13 g14 k14 hbk2 hwd2 ho2 ht1 nt2 nl1 s15
    -- and two more
    refine ⟨_, rfl, _, rfl, _, rfl, bk, _, rfl, .inr hbk3, st, sc, ns, ((ws.length + 2 : Nat) : Int), (by rw [hbl]; rfl), g15.st, by omega, by omega, fun c1 H16 hc0 hc1 k16 => ?_⟩
    have g16 := g15.kept k16
    refine ⟨_, rfl, st, sc, ns, 16, rfl, g16.st, by decide, by decide, fun d1 H17 hd0 hd1 k17 => ⟨(show 2 ≤ sizeLine by decide), fun t3 nt3 => ?_⟩⟩
    have s18 : Same H17 (upd H17 t3 (.tup [.int c1, .int d1])) := Same.new nt3
    have g18 := (g16.kept k17).same s18
    have hbk4 := s18.seqT (kk k17 g16 (kk k16 g15 hbk3))
    have hwd4 := s18.seqT (kk k17 g16 (kk k16 g15 hwd3))
    have ho4 := s18.seqT (kk k17 g16 (kk k16 g15 ho3))
    have ht1c := s18.seqT (kk k17 g16 (kk k16 g15 ht1b))
    have ht2c := s18.seqT (kk k17 g16 (kk k16 g15 ht2))
    have hl1b := s18 _ _ (k17.kp.lst (k16.kp.lst hl1' nl1s) nl1s)
    have ht3 : SqT K (upd H17 t3 (.tup [.int c1, .int d1])) t3 [.int c1, .int d1] := SqT.of upd_same
    generalize upd H17 t3 (.tup [.int c1, .int d1]) = H18 at s18 g18 hbk4 hwd4 ho4 ht1c ht2c hl1b ht3 ⊢
    clear g15 g16 k16 k17 s18 nt3 hbk3 hwd3 ho3 ht1b ht2 hl1'
    refine ⟨_, rfl, bk, _, rfl, .inr hbk4, _, _, rfl, rfl, _, rfl, st, sc, ns, 16, rfl, g18.st, by decide, by decide, fun e1 H19 he0 he1 k19 => ⟨(show 2 ≤ sizeLine by decide), fun t4 nt4 => ⟨(show 2 ≤ sizeLine by decide), fun l2 nl2 => ?_⟩⟩⟩
    have hl1c := k19.kp.lst hl1b nl1s
    have e4 : V.int ((((wsV (sealB ws)).length : Nat) : Int) - 1) = V.int ((ws.length + 1 : Nat) : Int) := by rw [hbl, show (((ws.length + 2 : Nat) : Int) - 1) = ((ws.length + 1 : Nat) : Int) by omega]
    have s20 : Same H19 (upd (upd H19 t4 (.tup [.int ((((wsV (sealB ws)).length : Nat) : Int) - 1), .int e1])) l2 (.lst [.ref t3, .ref t4])) := (Same.new nt4).trans (Same.new nl2)
    have g20 := (g18.kept k19).same s20
    refine ⟨l1, l2, _, _, rfl, rfl, s20 _ _ hl1c, upd_same, (show 2 + 2 ≤ sizeLine by decide), fun l3 nl3 => ?_⟩
    have s21 : Same H19 (upd (upd (upd H19 t4 (.tup [.int ((((wsV (sealB ws)).length : Nat) : Int) - 1), .int e1])) l2 (.lst [.ref t3, .ref t4])) l3 (.lst [.ref t1, .ref t2, .ref t3, .ref t4])) := s20.trans (Same.new nl3)
    have g21 := (g18.kept k19).same s21
    have hbk5 := s21.seqT (kk k19 g18 hbk4)
    have hwd5 := s21.seqT (kk k19 g18 hwd4)
    have ho5 := s21.seqT (kk k19 g18 ho4)
    have ht1d := s21.seqT (kk k19 g18 ht1c)
    have ht2d := s21.seqT (kk k19 g18 ht2c)
    have ht3d := s21.seqT (kk k19 g18 ht3)
    have ht4 : SqT K (upd (upd (upd H19 t4 (.tup [.int ((((wsV (sealB ws)).length : Nat) : Int) - 1), .int e1])) l2 (.lst [.ref t3, .ref t4])) l3 (.lst [.ref t1, .ref t2, .ref t3, .ref t4])) t4 [.int ((ws.length + 1 : Nat) : Int), .int e1] := by
      rw [← e4]
      exact SqT.of ((Same.new nl3) _ _ ((Same.new nl2) _ _ upd_same))
    have hl3 : (upd (upd (upd H19 t4 (.tup [.int ((((wsV (sealB ws)).length : Nat) : Int) - 1), .int e1])) l2 (.lst [.ref t3, .ref t4])) l3 (.lst [.ref t1, .ref t2, .ref t3, .ref t4])) l3 = some (.lst [.ref t1, .ref t2, .ref t3, .ref t4]) := upd_same
    have nl3s : l3 ≠ st := g20.ne nl3
    show tSeq _ _ _ _ (upd (upd (upd H19 t4 (.tup [.int ((((wsV (sealB ws)).length : Nat) : Int) - 1), .int e1])) l2 (.lst [.ref t3, .ref t4])) l3 (.lst [.ref t1, .ref t2, .ref t3, .ref t4]))
    generalize upd (upd (upd H19 t4 (.tup [.int ((((wsV (sealB ws)).length : Nat) : Int) - 1), .int e1])) l2 (.lst [.ref t3, .ref t4])) l3 (.lst [.ref t1, .ref t2, .ref t3, .ref t4]) = H21 at s21 g21 hbk5 hwd5 ho5 ht1d ht2d ht3d ht4 hl3 ⊢
    clear nl3 s20 s21 g20 e4 nl2 nt4 k19 g18 hbk4 hwd4 ho4 ht1c ht2c ht3 hl1b hl1c
    -- other
    refine ⟨_, rfl, _, rfl, st, sc, ns, 4, rfl, g21.st, by decide, by decide, fun r4 H22 hr0 hr1 k22 => ?_⟩
    obtain ⟨vo, evo, hvo⟩ := pick4v (a := .ref t1) (b := .ref t2) (c := .ref t3) (d := .ref t4) hr0 hr1
    refine ⟨l3, _, _, _, rfl, rfl, SqL.of (k22.kp.lst hl3 nl3s), evo, ?_⟩
    have g22 := g21.kept k22
    have hbk6 := kk k22 g21 hbk5
    have hwd6 := kk k22 g21 hwd5
    have ho6 := kk k22 g21 ho5
    obtain ⟨i, rfl⟩ : ∃ i : Nat, i0 = ((i : Nat) : Int) := ⟨i0.toNat, by omega⟩
    obtain ⟨k, rfl⟩ : ∃ k : Nat, k0 = ((k : Nat) : Int) := ⟨k0.toNat, by omega⟩
    obtain ⟨t, x, y, rfl, hx, hy, hto⟩ : ∃ (t : Addr) (x y : Nat), vo = .ref t ∧ x < ws.length + 2 ∧ y < 16 ∧ SqT K H22 t [.int ((x : Nat) : Int), .int ((y : Nat) : Int)] := by
      rcases hvo with rfl | rfl | rfl | rfl
      · exact ⟨t1, i, a1.toNat, rfl, by omega, by omega, by rw [show ((a1.toNat : Nat) : Int) = a1 by omega]; exact kk k22 g21 ht1d⟩
      · exact ⟨t2, b1.toNat, k, rfl, by omega, by omega, by rw [show ((b1.toNat : Nat) : Int) = b1 by omega]; exact kk k22 g21 ht2d⟩
      · exact ⟨t3, c1.toNat, d1.toNat, rfl, by omega, by omega, by rw [show ((c1.toNat : Nat) : Int) = c1 by omega, show ((d1.toNat : Nat) : Int) = d1 by omega]; exact kk k22 g21 ht3d⟩
      · exact ⟨t4, ws.length + 1, e1.toNat, rfl, by omega, by omega, by rw [show ((e1.toNat : Nat) : Int) = e1 by omega]; exact kk k22 g21 ht4⟩
    have hi : i < ws.length + 2 := by omega
    have hk : k < 16 := by omega
    clear hvo evo hr0 hr1 k22 g21 hbk5 hwd5 ho5 ht1d ht2d ht3d ht4 hl3 nl3s hi0 hi1 hk0 hk1 ha0 ha1 hb0 hb1 hc0 hc1 hd0 hd1 he0 he1
    -- bad
    have hi2 : i < (sealB ws).length := by rw [sealB_len]; exact hi
    have hx2 : x < (flipB (sealB ws) i k).length := by rw [flipB_len, sealB_len]; exact hx
    refine ⟨_, rfl, _, rfl, o1, _, _, _, rfl, rfl, ho6, rfl, _, rfl, o1, _, _, _, rfl, rfl, ho6, rfl, bk, sealB ws, i, k, rfl, hbk6, hi2, (by rw [sealB_len]; omega), hk, fun p1 H23 s23 hp1 => ?_⟩
    refine ⟨_, rfl, t, _, _, _, rfl, rfl, s23.seqT hto, rfl, _, rfl, t, _, _, _, rfl, rfl, s23.seqT hto, rfl, p1, flipB (sealB ws) i k, x, y, rfl, hp1, hx2, (by rw [flipB_len, sealB_len]; omega), hy, fun p2 H24 s24 hp2 => ?_⟩
    have s25 := s23.trans s24
    have g24 := g22.same s25
    have hbk7 := s25.seqT hbk6
    have hwd7 := s25.seqT hwd6
    have ho7 := s25.seqT ho6
    have hto7 := s25.seqT hto
    have hfw := flipB_lt (i := x) (flipB_lt (i := i) hbw hk hi2) hy hx2
    have hfl : (flipB (flipB (sealB ws) i k) x y).length = ws.length + 2 := by rw [flipB_len, flipB_len, sealB_len]
    clear s23 s24 s25 g22 hbk6 hwd6 ho6 hto hp1
    refine ⟨_, rfl, _, rfl, .tuple [.int (i : Nat), .int (k : Nat)], .tuple [.int (x : Nat), .int (y : Nat)], .tup ho7 (.cons (.int _) (.cons (.int _) .nil)), .tup hto7 (.cons (.int _) (.cons (.int _) .nil)), rfl, rfl, ?_⟩
    refine ⟨_, rfl, ?_⟩
    have bad16 : ∀ i', firstBad 16 (wsV (flipB (flipB (sealB ws) i k) x y)) 0 = some i' → False := fun i' hi' => by rw [bad_ws hfw (by rw [hfl]; omega)] at hi'; cases hi'
    by_cases heq : i = x ∧ k = y
    · refine iteBF (by rw [eqv_pair, decide_eq_true heq]; rfl) ?_
      obtain ⟨rfl, rfl⟩ := heq
      have hm : mendR (flipB (flipB (sealB ws) i k) i k) = some (ws, none) := by
        rw [flip_flip _ _ _ hi2]
        exact mend_sealed hl14
      refine ⟨_, rfl, p2, _, rfl, .inr hp2, kd_ws, (fun i' hi' => (bad16 i' hi').elim), (fun _ hlt => by rw [wsV_len, hfl] at hlt; omega), (fun b e _ _ _ hn => by rw [← wsV_inj e, hm] at hn; cases hn), fun b r' e _ _ _ hn v Hb sb hv => ?_⟩
      rw [← wsV_inj e, hm] at hn
      cases hn
      refine ⟨_, rfl, (show 2 ≤ sizeLine by decide), fun p3 n3 => ?_⟩
      have s26 := sb.trans (Same.new (o := .tup [.ref wd, .non]) n3)
      refine ⟨mendD (ws, none), mendD (ws, none), hv.same (Same.new n3), .tup (SqT.of upd_same) (.cons (.tup (s26.seqT hwd7) (dpAll_ws _)) (.cons .non .nil)), shp_mend ws, shp_mend ws, _, rfl, iteBF (by rw [SeqAt.eqv_refl _ (SeqAt.canLay_of_shaped (shp_mend ws))]; rfl) ?_⟩
      exact ⟨g24.same s26, s26.seqT hwd7, s26.seqT hbk7, _, _, _, _, _, rfl⟩
    · refine iteBT (by rw [eqv_pair, decide_eq_false heq]; rfl) ?_
      have hm := mend_flip2 hl1 hl14 hi hx heq
      refine ⟨g24.tab, fun H25 e25 tb25 => ?_⟩
      have g25 := g24.lam e25 tb25
      have ke : Kp st H24 H25 := Kp.ext e25
      refine ⟨_, rfl, p2, _, rfl, .inr (ke.sqT g24.st hp2), kd_ws, (fun i' hi' => (bad16 i' hi').elim), (fun _ hlt => by rw [wsV_len, hfl] at hlt; omega), (fun b e _ _ _ hn H26 s26 => ?_), fun b r' e _ _ _ hn => by rw [← wsV_inj e, hm] at hn; cases hn⟩
      refine ⟨"NoMend", by decide, rfl, .inl ⟨by decide, rfl, fun H27 s27 => ?_⟩⟩
      refine ⟨rfl, _, rfl, iteBF (by decide) ?_⟩
      have s28 := s26.trans s27
      exact ⟨g25.same s28, s28.seqT (ke.sqT g24.st hwd7), s28.seqT (ke.sqT g24.st hbk7), _, _, _, _, _, rfl⟩
end
end Lk25


set_option autoImplicit false
set_option Elab.async false
set_option linter.all false
set_option maxRecDepth 100000
set_option maxHeartbeats 0
namespace Lk25
open PySem PySem.Spec PyProof.Rows L2 Bm
theorem atS {w : World} {K : PySem.W.Frag} {h : Heap} {mg : Str → Option Value} {f : Addr} (X : K.In h) (G : h.Ns mainGlobals mg) (hmg : mg ("law" : Str) = some (.ref f)) (c : He.SaysX fa fn [] tf Bm.xB w h K) :
    LamX.LawAtS PySem.Challenge.rw_bitmill_k25_whole_any_turned_bit_is_mend w K CX0 7 63 "_law_script" mg f h := by
  have T : Txt K mg := txt_of X G c
  have Df : Defs K := defs_of c
  obtain ⟨fd, F⟩ := Df.law
  have e := hmg.symm.trans T.g_law
  cases e
  have b := FunD.bindsA (ps := ["_law_script"]) F fun _ _ _ _ _ _ us hl => match us, hl with | [_], _ => rfl
  have ht : (("law", none) : He.Defn) ∈ tf := List.mem_singleton.mpr rfl
  refine ⟨fd, [He.cT K ("law", none)], spLaw K, fun p hp => ?_, fun p hp => ?_, fun p hp => ?_, fun s u => b s [u] rfl, fun H a ns hl hb ht hS => ?_, fun base hK hN hT => ?_⟩
  · rw [List.mem_singleton.mp hp]
    exact c.empty _ ht
  · rw [List.mem_singleton.mp hp]
    exact c.out _ ht
  · rw [List.mem_singleton.mp hp]
    exact PySem.W.codeHd_of_K X (c.hd _ ht)
  · exact ⟨a, ns, rfl, hS, hl, ht _ (List.mem_singleton.mpr rfl), fun _ => rfl⟩
  · exact ok_law T Df ⟨fn_law_start T Df, fn_law_drawn T Df, fn_law_same T Df 2, fn_law_flipped T Df, fn_sealed T Df, fn_mended T Df⟩ (hT _ (List.mem_singleton.mpr rfl)) F
end Lk25
open PySem PySem.W PySem.Calls PyProof.Rows
theorem PySem.Challenge.cw_bitmill_k25_whole_any_turned_bit_is_mend_holds : PySem.Challenge.rw_bitmill_k25_whole_any_turned_bit_is_mend.Holds := by
  w_on; o_law
  refine HandSHeadRun.head_any (r := OpenLaw.row PySem.Challenge.rw_bitmill_k25_whole_any_turned_bit_is_mend) (q := view (OpenLaw.row PySem.Challenge.rw_bitmill_k25_whole_any_turned_bit_is_mend).prog [36]) (H := Lk25.hk) (ob := Lk25.ob) (M := 6000) (loose := Lk25.names) (d := HandSHeadRun.topDef (OpenLaw.row PySem.Challenge.rw_bitmill_k25_whole_any_turned_bit_is_mend).prog 36) (kwd := []) Lk25.ob_eq
    (by kernel_rfl) (fun s => by kernel_rfl) Lk25.run (by kernel_rfl) (by kernel_rfl) (by kernel_rfl) (by rfl) (by first | assumption | decide +kernel) (by decide +kernel) ⟨rfl, rfl, rfl, rfl, rfl, by decide +kernel⟩ ?hw ?hc
  case hw => w_witness2
  case hc =>
    refine LamX.walk_ofTsE (l := PySem.Challenge.rw_bitmill_k25_whole_any_turned_bit_is_mend) (n := 63) (k := 7) (x := "_law_script") (CX := fun _ => L2.CX0) rfl (by decide) (by kernel_rfl) ⟨rfl, by decide, by decide⟩ ?F (fun _ _ _ _ _ z => z)
    intro w mg fa h Y G hmg0
    obtain ⟨K, KX, c⟩ := Y
    have hmg : mg ("law" : PySem.Str) = some (.ref fa) := by
      have e : (HandSHeadRun.topDef (OpenLaw.row PySem.Challenge.rw_bitmill_k25_whole_any_turned_bit_is_mend).prog 36).name = ("law" : PySem.Str) := by kernel_rfl
      rw [← e]
      exact hmg0
    exact ⟨K, KX, Lk25.atS KX G hmg c⟩

